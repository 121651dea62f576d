import PyProof.Rows.All
import Wide.All
import OpenK.AllK
import Wide.FinOn
import HandS.ForMost
import HandS.ForExc
import HandS.Wide
import HandS.Evl
import HandS.DictComp
import HandS.Zip
import HandS.Property
import HandS.IsInst
import HandS.ExcInit
import HandS.ExcField
import HandS.TryMany
import HandS.ClsMeth
import KE.KStateDown
import HandS.Defaults
import HandS.HeadEnd
import HandS.Head0
import HandS.Head1
import HandS.Head2
import HandS.HeadHook1
import HandS.HeadHook2
import HandS.OwnEq
import HandS.SlotsOwn
import HandS.ListItems
import HandS.Conv
import HandS.TupAny
import HandS.Iter
import HandS.Walk
import HandS.Dict
import HandS.List
import HandS.More
import PyProof.Rows.SeqMore
import HandS.Star
import HandS.IterVal
import KE.KDictList
import OpenK.KOps
import HandS.Comp
import HandS.Style
import KE.KDictCopyH
import PyProof.DictFindH
import HandS.WordsDict
import PyProof.Rows.TupDisplay
import PySem.Challenge.RW_runsapart_k06_chances_shown
set_option Elab.async false
set_option linter.all false
set_option maxRecDepth 100000
set_option maxHeartbeats 4000000
/-! Values as data (D), changing objects in a small memory: a calculus over the layer's readings. -/
namespace RA
open PySem PySem.Spec PyProof.Rows L2 Evl

/-! ### data -/
/-- data: what a value stands for while nothing of it is changed -/
inductive D where
  | non | bl (b : Bool) | int (i : Int) | str (x : Str) | ty (n : String)
  | tup (ds : List D) | lst (ds : List D)
  | ins (C : Addr) (fs : List (Str × D))
  | ref (a : Addr) | tk (ks : List Key)
  | dic (kvs : List (Key × D)) | dicT (kvs : List (List Key × D)) | lk (o : Obj) (ws : List (Key × V)) (kvs : List (Key × D)) | lkT (o : Obj) (ws : List (List Key × V)) (kvs : List (List Key × D)) | xd (fs : List (Str × D)) | xt (φ : Heap → Prop)
mutual
inductive Den (K : PySem.W.Frag) (H : Hp) : V → D → Prop
  | non : Den K H .non .non
  | bl (b : Bool) : Den K H (.bl b) (.bl b)
  | int (i : Int) : Den K H (.int i) (.int i)
  | str (x : Str) : Den K H (.str x) (.str x)
  | ty (n : String) : Den K H (.ty n) (.ty n)
  | ref (a : Addr) : Den K H (.ref a) (.ref a)
  | tk {a : Addr} {ks : List Key} : H a = some (.tup (ks.map kV)) → Den K H (.ref a) (.tk ks)
  | tup {a : Addr} {xs : List V} {ds : List D} : SqT K H a xs → Dens K H xs ds → Den K H (.ref a) (.tup ds)
  | lst {a : Addr} {xs : List V} {ds : List D} : SqL K H a xs → Dens K H xs ds → Den K H (.ref a) (.lst ds)
  | ins {a C dx : Addr} {ws : List (Str × V)} {fs : List (Str × D)} : H a = some (.ins C dx ws) → DenF K H ws fs → Den K H (.ref a) (.ins C fs)
inductive Dens (K : PySem.W.Frag) (H : Hp) : List V → List D → Prop
  | nil : Dens K H [] []
  | cons {v : V} {d : D} {vs : List V} {ds : List D} : Den K H v d → Dens K H vs ds → Dens K H (v :: vs) (d :: ds)
inductive DenF (K : PySem.W.Frag) (H : Hp) : List (Str × V) → List (Str × D) → Prop
  | nil : DenF K H [] []
  | cons {f : Str} {v : V} {d : D} {vs : List (Str × V)} {ds : List (Str × D)} : Den K H v d → DenF K H vs ds → DenF K H ((f, v) :: vs) ((f, d) :: ds)
end
section
variable {K : PySem.W.Frag} {H H' : Hp}
mutual
theorem Den.mono (e : Ex H H') : ∀ {v : V} {d : D}, Den K H v d → Den K H' v d
  | _, _, .non => .non
  | _, _, .bl b => .bl b
  | _, _, .int i => .int i
  | _, _, .str x => .str x
  | _, _, .ty n => .ty n
  | _, _, .ref a => .ref a
  | _, _, .tk h => .tk (e _ _ h)
  | _, _, .tup h hs => .tup (ex_t e h) (Dens.mono e hs)
  | _, _, .lst h hs => .lst (ex_l e h) (Dens.mono e hs)
  | _, _, .ins h hs => .ins (e _ _ h) (DenF.mono e hs)
theorem Dens.mono (e : Ex H H') : ∀ {vs : List V} {ds : List D}, Dens K H vs ds → Dens K H' vs ds
  | _, _, .nil => .nil
  | _, _, .cons h hs => .cons (Den.mono e h) (Dens.mono e hs)
theorem DenF.mono (e : Ex H H') : ∀ {vs : List (Str × V)} {ds : List (Str × D)}, DenF K H vs ds → DenF K H' vs ds
  | _, _, .nil => .nil
  | _, _, .cons h hs => .cons (Den.mono e h) (DenF.mono e hs)
end
theorem Dens.length : ∀ {vs : List V} {ds : List D}, Dens K H vs ds → vs.length = ds.length
  | _, _, .nil => rfl
  | _, _, .cons _ hs => congrArg (· + 1) (Dens.length hs)
theorem Dens.get : ∀ {vs : List V} {ds : List D} {i : Nat} {d : D}, Dens K H vs ds → ds[i]? = some d → ∃ v, vs[i]? = some v ∧ Den K H v d
  | _, _, _, _, .nil, e => by simp at e
  | _, _, 0, _, .cons h _, e => by simp at e; subst e; exact ⟨_, rfl, h⟩
  | _, _, i + 1, d, .cons _ hs, e => by
    obtain ⟨v, h1, h2⟩ := Dens.get (i := i) (d := d) hs (by simpa using e)
    exact ⟨v, by simpa using h1, h2⟩
theorem Dens.getV : ∀ {vs : List V} {ds : List D} {i : Nat} {v : V}, Dens K H vs ds → vs[i]? = some v → ∃ d, ds[i]? = some d ∧ Den K H v d
  | _, _, _, _, .nil, e => by simp at e
  | _, _, 0, _, .cons h _, e => by simp at e; subst e; exact ⟨_, rfl, h⟩
  | _, _, i + 1, d, .cons _ hs, e => by
    obtain ⟨v, h1, h2⟩ := Dens.getV (i := i) (v := d) hs (by simpa using e)
    exact ⟨v, by simpa using h1, h2⟩
theorem Dens.append : ∀ {vs ws : List V} {ds es : List D}, Dens K H vs ds → Dens K H ws es → Dens K H (vs ++ ws) (ds ++ es)
  | _, _, _, _, .nil, h => h
  | _, _, _, _, .cons h hs, r => .cons h (Dens.append hs r)
theorem Dens.set : ∀ {vs : List V} {ds : List D} (i : Nat) {v : V} {d : D}, Dens K H vs ds → Den K H v d → Dens K H (vs.set i v) (ds.set i d)
  | _, _, _, _, _, .nil, _ => .nil
  | _, _, 0, _, _, .cons _ hs, r => .cons r hs
  | _, _, i + 1, _, _, .cons h hs, r => .cons h (Dens.set i hs r)
theorem Dens.take : ∀ {vs : List V} {ds : List D} (n : Nat), Dens K H vs ds → Dens K H (vs.take n) (ds.take n)
  | _, _, 0, _ => .nil
  | _, _, _ + 1, .nil => .nil
  | _, _, n + 1, .cons h hs => .cons h (Dens.take n hs)
theorem Dens.drop : ∀ {vs : List V} {ds : List D} (n : Nat), Dens K H vs ds → Dens K H (vs.drop n) (ds.drop n)
  | _, _, 0, h => h
  | _, _, _ + 1, .nil => .nil
  | _, _, n + 1, .cons _ hs => Dens.drop n hs
theorem Dens.reverse : ∀ {vs : List V} {ds : List D}, Dens K H vs ds → Dens K H vs.reverse ds.reverse
  | _, _, .nil => .nil
  | _, _, .cons h hs => by
    rw [List.reverse_cons, List.reverse_cons]
    exact Dens.append (Dens.reverse hs) (.cons h .nil)
theorem Dens.ints : ∀ {ns : List Int}, Dens K H (ns.map V.int) (ns.map D.int)
  | [] => .nil
  | n :: ns => .cons (.int n) Dens.ints
theorem Den.int_of {v : V} {i : Int} (h : Den K H v (.int i)) : v = .int i := by cases h; rfl
theorem Den.bl_of {v : V} {b : Bool} (h : Den K H v (.bl b)) : v = .bl b := by cases h; rfl
theorem Den.non_of {v : V} (h : Den K H v .non) : v = .non := by cases h; rfl
theorem Den.str_of {v : V} {x : Str} (h : Den K H v (.str x)) : v = .str x := by cases h; rfl
theorem Den.ty_of {v : V} {x : String} (h : Den K H v (.ty x)) : v = .ty x := by cases h; rfl
theorem Den.ref_of {v : V} {a : Addr} (h : Den K H v (.ref a)) : v = .ref a := by cases h; rfl
theorem Den.tk_of {v : V} {ks : List Key} (h : Den K H v (.tk ks)) : ∃ a, v = .ref a ∧ H a = some (.tup (ks.map kV)) := by
  cases h with
  | tk h => exact ⟨_, rfl, h⟩
theorem Den.tup_of {v : V} {ds : List D} (h : Den K H v (.tup ds)) : ∃ a xs, v = .ref a ∧ SqT K H a xs ∧ Dens K H xs ds := by
  cases h with
  | tup h hs => exact ⟨_, _, rfl, h, hs⟩
theorem Den.lst_of {v : V} {ds : List D} (h : Den K H v (.lst ds)) : ∃ a xs, v = .ref a ∧ SqL K H a xs ∧ Dens K H xs ds := by
  cases h with
  | lst h hs => exact ⟨_, _, rfl, h, hs⟩
theorem Den.ins_of {v : V} {C : Addr} {fs : List (Str × D)} (h : Den K H v (.ins C fs)) : ∃ a dx ws, v = .ref a ∧ H a = some (.ins C dx ws) ∧ DenF K H ws fs := by
  cases h with
  | ins h hs => exact ⟨_, _, _, rfl, h, hs⟩
theorem Dens.ints_of : ∀ {vs : List V} {ns : List Int}, Dens K H vs (ns.map D.int) → vs = ns.map V.int
  | _, [], .nil => rfl
  | _, n :: ns, .cons h hs => by
    rw [h.int_of, Dens.ints_of hs]; rfl
theorem DenF.lookup : ∀ {ws : List (Str × V)} {fs : List (Str × D)} {f : Str} {d : D}, DenF K H ws fs → fs.lookup f = some d → ∃ v, ws.lookup f = some v ∧ Den K H v d
  | _, _, _, _, .nil, e => by simp [List.lookup] at e
  | _, _, f, d, .cons (f := g) h hs, e => by
    simp only [List.lookup] at e ⊢
    cases q : f == g with
    | true => rw [q] at e; simp only [Option.some.injEq] at e; subst e; exact ⟨_, rfl, h⟩
    | false => rw [q] at e; exact DenF.lookup hs e
theorem DenF.lookup_none : ∀ {ws : List (Str × V)} {fs : List (Str × D)} {f : Str}, DenF K H ws fs → fs.lookup f = none → ws.lookup f = none
  | _, _, _, .nil, _ => rfl
  | _, _, f, .cons (f := g) h hs, e => by
    simp only [List.lookup] at e ⊢
    cases q : f == g with
    | true => rw [q] at e; simp at e
    | false => rw [q] at e; exact DenF.lookup_none hs e
theorem DenF.length : ∀ {ws : List (Str × V)} {fs : List (Str × D)}, DenF K H ws fs → ws.length = fs.length
  | _, _, .nil => rfl
  | _, _, .cons _ hs => congrArg (· + 1) (DenF.length hs)
/-- a field is put -/
def putD (f : Str) (v : D) : List (Str × D) → List (Str × D)
  | [] => [(f, v)]
  | (g, x) :: r => if g = f then (g, v) :: r else (g, x) :: putD f v r
theorem DenF.put {f : Str} {v : V} {d : D} (r : Den K H v d) : ∀ {ws : List (Str × V)} {fs : List (Str × D)}, DenF K H ws fs → DenF K H (putF f v ws) (putD f d fs)
  | _, _, .nil => .cons r .nil
  | _, _, .cons (f := g) h hs => by
    unfold putF putD
    by_cases q : g = f
    · rw [if_pos q, if_pos q]; exact .cons r hs
    · rw [if_neg q, if_neg q]; exact .cons h (DenF.put r hs)
end

/-! ### the memory -/
abbrev Mem := List (Addr × D)
noncomputable def vis (m : Mem) (H : Hp) : Hp := fun a => open Classical in if a ∈ m.map (·.1) then none else H a
section
variable {K : PySem.W.Frag} {H H' : Hp} {m m' : Mem}
theorem vis_out {a : Addr} (h : a ∉ m.map (·.1)) : vis m H a = H a := by unfold vis; rw [if_neg h]
theorem vis_in {a : Addr} (h : a ∈ m.map (·.1)) : vis m H a = none := by unfold vis; rw [if_pos h]
theorem vis_some {a : Addr} {o : HO} (h : vis m H a = some o) : H a = some o ∧ a ∉ m.map (·.1) := by
  by_cases q : a ∈ m.map (·.1)
  · rw [vis_in q] at h; cases h
  · rw [vis_out q] at h; exact ⟨h, q⟩
theorem vis_ex : Ex (vis m H) H := fun a o h => (vis_some h).1
theorem vis_nil : vis [] H = H := by funext a; exact vis_out (by simp)
theorem vis_none {a : Addr} (h : H a = none) : vis m H a = none := by
  by_cases q : a ∈ m.map (·.1)
  · exact vis_in q
  · rw [vis_out q]; exact h
theorem Ex.vis (e : Ex H H') : Ex (vis m H) (RA.vis m H') := fun a o h => by
  obtain ⟨h1, h2⟩ := vis_some h
  rw [vis_out h2]; exact e a o h1
/-- what is seen hangs on the addresses alone -/
theorem vis_keys (h : m.map (·.1) = m'.map (·.1)) : vis m H = vis m' H := by funext a; unfold vis; rw [h]
/-- the content of a changing object -/
def Cell (K : PySem.W.Frag) (G H : Hp) (l : Addr) : D → Prop
  | .lst ds => ∃ vs, H l = some (.lst vs) ∧ Dens K G vs ds
  | .dic kvs => ∃ ws, H l = some (.dK ws) ∧ Paired (fun (p : Key × V) (q : Key × D) => p.1 = q.1 ∧ Den K G p.2 q.2) ws kvs
  | .dicT kvs => ∃ ws, H l = some (.dT ws) ∧ Paired (fun (p : List Key × V) (q : List Key × D) => p.1 = q.1 ∧ Den K G p.2 q.2) ws kvs
  | .lk o ws kvs => H l = some (.frz o (.dK ws)) ∧ Paired (fun (p : Key × V) (q : Key × D) => p.1 = q.1 ∧ Den K G p.2 q.2) ws kvs
  | .lkT o ws kvs => H l = some (.frz o (.dT ws)) ∧ Paired (fun (p : List Key × V) (q : List Key × D) => p.1 = q.1 ∧ Den K G p.2 q.2) ws kvs
  | .ins C fs => ∃ dx ws, H l = some (.ins C dx ws) ∧ DenF K G ws fs
  | .xt φ => H l = some (.ext φ)
  | .xd fs => ∃ ws, H l = some (.xd ws) ∧ DenF K G ws fs
  | _ => False
theorem Paired.imp {α β : Type} {F G : α → β → Prop} (f : ∀ a b, F a b → G a b) : ∀ {l : List α} {r : List β}, Paired F l r → Paired G l r
  | _, _, .nil => .nil
  | _, _, .cons h t => .cons (f _ _ h) (Paired.imp f t)
theorem Cell.mono {G G' : Hp} {l : Addr} {d : D} (e : Ex G G') (k : H l = H' l) (c : Cell K G H l d) : Cell K G' H' l d := by
  cases d <;> simp only [Cell] at c ⊢ <;> try exact c
  case lst ds => obtain ⟨vs, h, r⟩ := c; exact ⟨vs, by rw [← k]; exact h, r.mono e⟩
  case ins C fs => obtain ⟨dx, ws, h, r⟩ := c; exact ⟨dx, ws, by rw [← k]; exact h, r.mono e⟩
  case xt φ => rw [← k]; exact c
  case xd fs => obtain ⟨ws, h, r⟩ := c; exact ⟨ws, by rw [← k]; exact h, r.mono e⟩
  case dic kvs => obtain ⟨ws, h, r⟩ := c; exact ⟨ws, by rw [← k]; exact h, RA.Paired.imp (fun _ _ q => ⟨q.1, q.2.mono e⟩) r⟩
  case dicT kvs => obtain ⟨ws, h, r⟩ := c; exact ⟨ws, by rw [← k]; exact h, RA.Paired.imp (fun _ _ q => ⟨q.1, q.2.mono e⟩) r⟩
  case lk o ws kvs => obtain ⟨h, r⟩ := c; exact ⟨by rw [← k]; exact h, RA.Paired.imp (fun _ _ q => ⟨q.1, q.2.mono e⟩) r⟩
  case lkT o ws kvs => obtain ⟨h, r⟩ := c; exact ⟨by rw [← k]; exact h, RA.Paired.imp (fun _ _ q => ⟨q.1, q.2.mono e⟩) r⟩
theorem Cell.some {G : Hp} {l : Addr} {d : D} (c : Cell K G H l d) : ∃ o, H l = some o := by
  cases d <;> simp only [Cell] at c
  case lst ds => obtain ⟨vs, h, r⟩ := c; exact ⟨_, h⟩
  case ins C fs => obtain ⟨dx, ws, h, r⟩ := c; exact ⟨_, h⟩
  case xt φ => exact ⟨_, c⟩
  case xd fs => obtain ⟨ws, h, r⟩ := c; exact ⟨_, h⟩
  case dic kvs => obtain ⟨ws, h, r⟩ := c; exact ⟨_, h⟩
  case dicT kvs => obtain ⟨ws, h, r⟩ := c; exact ⟨_, h⟩
  case lk o ws kvs => obtain ⟨h, r⟩ := c; exact ⟨_, h⟩
  case lkT o ws kvs => obtain ⟨h, r⟩ := c; exact ⟨_, h⟩
structure MemOk (K : PySem.W.Frag) (H : Hp) (m : Mem) : Prop where
  nd : (m.map (·.1)).Nodup
  at_ : ∀ p ∈ m, Cell K (vis m H) H p.1 p.2
theorem MemOk.nil : MemOk K H [] := ⟨by simp, fun _ h => nomatch h⟩
/-- the heap grows -/
theorem MemOk.ex (M : MemOk K H m) (e : Ex H H') : MemOk K H' m := ⟨M.nd, fun p hp => by
  have c := M.at_ p hp
  obtain ⟨o, ho⟩ := c.some
  exact c.mono (Ex.vis e) (by rw [ho, e _ _ ho])⟩
theorem MemOk.live (M : MemOk K H m) {a : Addr} (h : a ∈ m.map (·.1)) : ∃ o, H a = some o := by
  obtain ⟨p, hp, rfl⟩ := List.mem_map.mp h
  exact (M.at_ p hp).some
theorem MemOk.fresh (M : MemOk K H m) {a : Addr} (h : H a = none) : a ∉ m.map (·.1) := fun q => by
  obtain ⟨o, ho⟩ := M.live q
  rw [h] at ho; cases ho
/-- a new object -/
theorem vis_new (M : MemOk K H m) {p : Addr} {o : HO} (h : H p = none) : vis m (upd H p o) p = some o := by
  rw [vis_out (M.fresh h)]; exact upd_same
theorem MemOk.new (M : MemOk K H m) {p : Addr} {o : HO} (h : H p = none) : MemOk K (upd H p o) m := M.ex (Ex.new h)
theorem ex_new {p : Addr} {o : HO} (h : H p = none) : Ex (vis m H) (vis m (upd H p o)) := Ex.vis (Ex.new h)
theorem vis_cons_ex {a : Addr} {d : D} : Ex (vis ((a, d) :: m) H) (vis m H) := fun b o h => by
  obtain ⟨h1, h2⟩ := vis_some h
  rw [vis_out (fun q => h2 (List.mem_cons_of_mem _ q))]; exact h1
/-- a new object goes into the memory -/
theorem MemOk.add (M : MemOk K H m) {l : Addr} {d : D} {o : HO} (h : H l = none) (c : Cell K (vis m H) (upd H l o) l d) : MemOk K (upd H l o) ((l, d) :: m) := by
  have e : Ex (vis m H) (vis ((l, d) :: m) (upd H l o)) := fun b u hb => by
    obtain ⟨h1, h2⟩ := vis_some hb
    have hn : b ≠ l := ne_of_none h1 h
    rw [vis_out (by simp only [List.map_cons, List.mem_cons, not_or]; exact ⟨hn, h2⟩), upd_ne hn]; exact h1
  refine ⟨by simp only [List.map_cons, List.nodup_cons]; exact ⟨M.fresh h, M.nd⟩, fun p hp => ?_⟩
  rcases List.mem_cons.mp hp with rfl | hp
  · exact c.mono e rfl
  · have q : p.1 ≠ l := fun z => M.fresh h (z ▸ List.mem_map_of_mem hp)
    exact (M.at_ p hp).mono e (upd_ne q).symm
theorem ex_add {l : Addr} {d : D} {o : HO} (h : H l = none) : Ex (vis m H) (vis ((l, d) :: m) (upd H l o)) := fun b u hb => by
  obtain ⟨h1, h2⟩ := vis_some hb
  have hn : b ≠ l := ne_of_none h1 h
  rw [vis_out (by simp only [List.map_cons, List.mem_cons, not_or]; exact ⟨hn, h2⟩), upd_ne hn]; exact h1
/-- an object that stands is taken into the memory -/
theorem MemOk.take (M : MemOk K H m) {l : Addr} {d : D} (h : l ∉ m.map (·.1)) (c : Cell K (vis ((l, d) :: m) H) H l d) (hm : ∀ p ∈ m, Cell K (vis ((l, d) :: m) H) H p.1 p.2) : MemOk K H ((l, d) :: m) := by
  refine ⟨by simp only [List.map_cons, List.nodup_cons]; exact ⟨h, M.nd⟩, fun p hp => ?_⟩
  rcases List.mem_cons.mp hp with rfl | hp
  · exact c
  · exact hm p hp
/-- an object of the memory is written -/
theorem set_keys {k : Nat} {l : Addr} {d d' : D} (h : m[k]? = some (l, d)) : (m.set k (l, d')).map (·.1) = m.map (·.1) := by
  rw [List.map_set]
  apply List.ext_getElem?
  intro i
  by_cases q : i = k
  · subst q
    have hl : i < m.length := (List.getElem?_eq_some_iff.mp h).1
    rw [List.getElem?_set_self (by simpa using hl), List.getElem?_map, h]; rfl
  · rw [List.getElem?_set_ne (fun z => q z.symm)]
theorem vis_set {k : Nat} {l : Addr} {d d' : D} (h : m[k]? = some (l, d)) : vis (m.set k (l, d')) H = vis m H := vis_keys (set_keys h)
theorem vis_upd {l : Addr} {o : HO} (h : l ∈ m.map (·.1)) : vis m (upd H l o) = vis m H := by
  funext b
  by_cases q : b ∈ m.map (·.1)
  · rw [vis_in q, vis_in q]
  · rw [vis_out q, vis_out q, upd_ne (fun z => q (by rw [z]; exact h))]
theorem mem_at {k : Nat} {l : Addr} {d : D} (h : m[k]? = some (l, d)) : (l, d) ∈ m := List.mem_of_getElem? h
theorem key_at {k : Nat} {l : Addr} {d : D} (h : m[k]? = some (l, d)) : l ∈ m.map (·.1) := List.mem_map_of_mem (f := (·.1)) (mem_at h)
theorem MemOk.cell (M : MemOk K H m) {k : Nat} {l : Addr} {d : D} (h : m[k]? = some (l, d)) : Cell K (vis m H) H l d := M.at_ _ (mem_at h)
theorem MemOk.write (M : MemOk K H m) {k : Nat} {l : Addr} {d d' : D} {o : HO} (h : m[k]? = some (l, d)) (c : Cell K (vis m H) (upd H l o) l d') : MemOk K (upd H l o) (m.set k (l, d')) := by
  have hk := set_keys (d' := d') h
  have hv : vis (m.set k (l, d')) (upd H l o) = vis m H := by rw [vis_set h, vis_upd (key_at h)]
  refine ⟨by rw [hk]; exact M.nd, fun p hp => ?_⟩
  rw [hv]
  obtain ⟨i, hi⟩ := List.getElem?_of_mem hp
  by_cases q : k = i
  · subst q
    have hl : k < m.length := (List.getElem?_eq_some_iff.mp h).1
    rw [List.getElem?_set_self hl] at hi
    cases hi
    exact c
  · rw [List.getElem?_set_ne q] at hi
    have hm := List.mem_of_getElem? hi
    have hne : p.1 ≠ l := fun z => by
      have h1 : (m.map (·.1))[i]? = some l := by rw [List.getElem?_map, hi]; exact congrArg some z
      have h2 : (m.map (·.1))[k]? = some l := by rw [List.getElem?_map, h]; rfl
      exact q (nd_ix M.nd h2 h1)
    exact (M.at_ p hm).mono (Ex.refl _) (upd_ne hne).symm
theorem ex_write {k : Nat} {l : Addr} {d d' : D} {o : HO} (h : m[k]? = some (l, d)) : Ex (vis m H) (vis (m.set k (l, d')) (upd H l o)) := by
  rw [vis_set h, vis_upd (key_at h)]; exact Ex.refl _
/-- the first object of the memory is let go: it changes no more -/
theorem MemOk.drop {l : Addr} {d : D} (M : MemOk K H ((l, d) :: m)) : MemOk K H m := by
  have nd := M.nd
  simp only [List.map_cons, List.nodup_cons] at nd
  exact ⟨nd.2, fun p hp => (M.at_ p (List.mem_cons_of_mem _ hp)).mono vis_cons_ex rfl⟩
theorem vis_cons2 {a b : Addr} {d e : D} : Ex (vis ((a, d) :: (b, e) :: m) H) (vis ((a, d) :: m) H) := fun c o h => by
  obtain ⟨h1, h2⟩ := vis_some h
  rw [vis_out (fun q => h2 (by
    simp only [List.map_cons, List.mem_cons] at q ⊢
    rcases q with q | q
    · exact .inl q
    · exact .inr (.inr q)))]; exact h1
theorem MemOk.drop2 {a b : Addr} {d e : D} (M : MemOk K H ((a, d) :: (b, e) :: m)) : MemOk K H ((a, d) :: m) := by
  have nd := M.nd
  simp only [List.map_cons, List.nodup_cons, List.mem_cons, not_or] at nd
  refine ⟨by simp only [List.map_cons, List.nodup_cons]; exact ⟨nd.1.2, nd.2.2⟩, fun p hp => ?_⟩
  have hp' : p ∈ (a, d) :: (b, e) :: m := by
    rcases List.mem_cons.mp hp with z | z
    · rw [z]; exact List.mem_cons_self
    · exact List.mem_cons_of_mem _ (List.mem_cons_of_mem _ z)
  exact (M.at_ p hp').mono vis_cons2 rfl
theorem MemOk.dropLst {l : Addr} {ds : List D} (M : MemOk K H ((l, .lst ds) :: m)) : Den K (vis m H) (.ref l) (.lst ds) := by
  have nd := M.nd
  simp only [List.map_cons, List.nodup_cons] at nd
  obtain ⟨vs, h, r⟩ := M.at_ _ List.mem_cons_self
  refine .lst (SqL.of ?_) (r.mono vis_cons_ex)
  rw [vis_out nd.1]; exact h
theorem MemOk.dropIns {l C : Addr} {fs : List (Str × D)} (M : MemOk K H ((l, .ins C fs) :: m)) : Den K (vis m H) (.ref l) (.ins C fs) := by
  have nd := M.nd
  simp only [List.map_cons, List.nodup_cons] at nd
  obtain ⟨dx, vs, h, r⟩ := M.at_ _ List.mem_cons_self
  refine .ins (dx := dx) ?_ (r.mono vis_cons_ex)
  rw [vis_out nd.1]; exact h
end

/-! ### slots -/
def Slot (K : PySem.W.Frag) (G : Hp) : Option V → Option D → Prop
  | _, none => True
  | some v, some d => Den K G v d
  | none, some _ => False
abbrev StOk (K : PySem.W.Frag) (G : Hp) (σ : L2.St) (ts : List (Option D)) : Prop := Paired (Slot K G) σ ts
section
variable {K : PySem.W.Frag} {G G' : Hp} {σ : L2.St} {ts : List (Option D)}
theorem Slot.mono (e : Ex G G') : ∀ {o : Option V} {t : Option D}, Slot K G o t → Slot K G' o t
  | _, none, _ => by cases ‹Option V› <;> trivial
  | some v, some d, h => Den.mono e h
  | none, some _, h => h
theorem StOk.mono (e : Ex G G') (h : StOk K G σ ts) : StOk K G' σ ts := Paired.imp (fun _ _ q => q.mono e) h
theorem StOk.get : ∀ {σ : L2.St} {ts : List (Option D)} {i : Nat} {d : D}, StOk K G σ ts → ts[i]? = some (some d) → ∃ v, σ[i]? = some (some v) ∧ Den K G v d
  | _, _, _, _, .nil, e => by simp at e
  | _, _, 0, d, .cons (a := o) h _, e => by
    simp at e; subst e
    cases o with
    | none => exact h.elim
    | some v => exact ⟨v, rfl, h⟩
  | _, _, i + 1, d, .cons _ hs, e => by
    obtain ⟨v, h1, h2⟩ := StOk.get (i := i) (d := d) hs (by simpa using e)
    exact ⟨v, by simpa using h1, h2⟩
theorem StOk.set {v : V} {d : D} (r : Den K G v d) : ∀ {σ : L2.St} {ts : List (Option D)} (i : Nat), StOk K G σ ts → StOk K G (σ.set i (some v)) (ts.set i (some d))
  | _, _, _, .nil => .nil
  | _, _, 0, .cons _ hs => .cons r hs
  | _, _, i + 1, .cons h hs => .cons h (StOk.set r i hs)
theorem StOk.setN {o : Option V} : ∀ {σ : L2.St} {ts : List (Option D)} (i : Nat), StOk K G σ ts → StOk K G (σ.set i o) (ts.set i none)
  | _, _, _, .nil => .nil
  | _, _, 0, .cons _ hs => .cons (by cases o <;> trivial) hs
  | _, _, i + 1, .cons h hs => .cons h (StOk.setN i hs)
theorem StOk.length (h : StOk K G σ ts) : σ.length = ts.length := Paired.length h
def wipeT (ts : List (Option D)) : List Nat → List (Option D)
  | [] => ts
  | v :: vs => (wipeT ts vs).set v none
theorem StOk.wipe (h : StOk K G σ ts) : ∀ vs : List Nat, StOk K G (L2.wipe σ vs) (wipeT ts vs)
  | [] => h
  | v :: vs => (StOk.wipe h vs).setN v
theorem wipe_set {y : Option V} {j : Nat} : ∀ {vs : List Nat}, j ∈ vs → L2.wipe (σ.set j y) vs = L2.wipe σ vs
  | [], h => nomatch h
  | v :: vs, h => by
    show (L2.wipe (σ.set j y) vs).set v none = (L2.wipe σ vs).set v none
    by_cases q : j ∈ vs
    · rw [wipe_set q]
    · have e : j = v := by
        rcases List.mem_cons.mp h with z | z
        · exact z
        · exact absurd z q
      subst e
      have aux : ∀ {vs : List Nat}, j ∉ vs → L2.wipe (σ.set j y) vs = (L2.wipe σ vs).set j y := by
        intro vs
        induction vs with
        | nil => intro _; rfl
        | cons u us ih =>
          intro hn
          have h1 : j ≠ u := fun z => hn (z ▸ List.mem_cons_self)
          have h2 : j ∉ us := fun z => hn (List.mem_cons_of_mem _ z)
          show (L2.wipe (σ.set j y) us).set u none = ((L2.wipe σ us).set u none).set j y
          rw [ih h2, List.set_comm _ _ h1]
      rw [aux q, List.set_set]
theorem wipe_idem : ∀ vs : List Nat, L2.wipe (L2.wipe σ vs) vs = L2.wipe σ vs := by
  intro vs
  apply List.ext_getElem?
  intro i
  by_cases q : i ∈ vs
  · have aux : ∀ (σ : L2.St) (vs : List Nat), i ∈ vs → i < σ.length → (L2.wipe σ vs)[i]? = some none := by
      intro σ vs
      induction vs with
      | nil => intro h; exact nomatch h
      | cons u us ih =>
        intro h hl
        show ((L2.wipe σ us).set u none)[i]? = some none
        by_cases z : u = i
        · subst z; rw [List.getElem?_set_self (by rw [wipe_length]; exact hl)]
        · rw [List.getElem?_set_ne z]
          rcases List.mem_cons.mp h with w | w
          · exact absurd w.symm z
          · exact ih w hl
    by_cases hl : i < σ.length
    · rw [aux _ _ q (by rw [wipe_length]; exact hl), aux _ _ q hl]
    · rw [List.getElem?_eq_none (by rw [wipe_length, wipe_length]; omega), List.getElem?_eq_none (by rw [wipe_length]; omega)]
  · have aux : ∀ (σ : L2.St) (vs : List Nat), i ∉ vs → (L2.wipe σ vs)[i]? = σ[i]? := by
      intro σ vs
      induction vs with
      | nil => intro _; rfl
      | cons u us ih =>
        intro h
        show ((L2.wipe σ us).set u none)[i]? = σ[i]?
        rw [List.getElem?_set_ne (fun z => h (by rw [← z]; exact List.mem_cons_self)), ih (fun z => h (List.mem_cons_of_mem _ z))]
    rw [aux _ _ q, aux _ _ q]
end
end RA
set_option Elab.async false
set_option linter.all false
set_option maxRecDepth 100000
set_option maxHeartbeats 4000000
namespace RA
open PySem PySem.Spec PyProof.Rows L2 Evl
abbrev TSt := List (Option D)

/-! ### judgements of expressions -/
def EvP (K : PySem.W.Frag) (te : TE) (ts : TSt) (m : Mem) (P : D → Mem → Prop) : Prop :=
  ∀ σ H, MemOk K H m → StOk K (vis m H) σ ts → ∀ Q : VK, (∀ v H' d m', P d m' → MemOk K H' m' → Ex (vis m H) (vis m' H') → Den K (vis m' H') v d → Q v H') → te σ H Q
def EvD (K : PySem.W.Frag) (te : TE) (ts : TSt) (m : Mem) (d : D) : Prop := EvP K te ts m fun d' m' => d' = d ∧ m' = m
def EvB (K : PySem.W.Frag) (tt : TT) (ts : TSt) (m : Mem) (P : Bool → Mem → Prop) : Prop :=
  ∀ σ H, MemOk K H m → StOk K (vis m H) σ ts → ∀ Q : Bool → Hp → Prop, (∀ b H' m', P b m' → MemOk K H' m' → Ex (vis m H) (vis m' H') → Q b H') → tt σ H Q
def EvT (K : PySem.W.Frag) (tt : TT) (ts : TSt) (m : Mem) (b : Bool) : Prop := EvB K tt ts m fun b' m' => b' = b ∧ m' = m
def EvA (K : PySem.W.Frag) (ta : TA) (ts : TSt) (m : Mem) (P : List D → Mem → Prop) : Prop :=
  ∀ σ H, MemOk K H m → StOk K (vis m H) σ ts → ∀ Q : List V → Hp → Prop, (∀ vs H' ds m', P ds m' → MemOk K H' m' → Ex (vis m H) (vis m' H') → Dens K (vis m' H') vs ds → Q vs H') → ta σ H Q
def EvL (K : PySem.W.Frag) (ta : TA) (ts : TSt) (m : Mem) (ds : List D) : Prop := EvA K ta ts m fun ds' m' => ds' = ds ∧ m' = m
section
variable {K : PySem.W.Frag} {ts : TSt} {m : Mem} {te ta tb : TE} {d d1 d2 : D} {P P' : D → Mem → Prop} {t u : TT} {PB : Bool → Mem → Prop} {b b1 b2 : Bool}
theorem EvP.imp (h : EvP K te ts m P) (f : ∀ d m', P d m' → P' d m') : EvP K te ts m P' := fun σ H M S Q q => h σ H M S Q fun v H' d m' p => q v H' d m' (f d m' p)
theorem EvB.imp {PB' : Bool → Mem → Prop} (h : EvB K t ts m PB) (f : ∀ b m', PB b m' → PB' b m') : EvB K t ts m PB' := fun σ H M S Q q => h σ H M S Q fun b H' m' p => q b H' m' (f b m' p)
theorem EvD.p (h : EvD K te ts m d) (p : P d m) : EvP K te ts m P := EvP.imp h fun _ _ ⟨e1, e2⟩ => by rw [e1, e2]; exact p
theorem EvD.is (h : EvD K te ts m d) (e : d = d1) : EvD K te ts m d1 := e ▸ h
theorem EvT.p (h : EvT K t ts m b) (p : PB b m) : EvB K t ts m PB := EvB.imp h fun _ _ ⟨e1, e2⟩ => by rw [e1, e2]; exact p
theorem EvT.is (h : EvT K t ts m b) (e : b = b1) : EvT K t ts m b1 := e ▸ h
theorem EvL.p {tl : TA} {ds : List D} {PA : List D → Mem → Prop} (h : EvL K tl ts m ds) (p : PA ds m) : EvA K tl ts m PA := fun σ H M S Q q => h σ H M S Q fun v H' d m' ⟨e1, e2⟩ => q v H' d m' (by rw [e1, e2]; exact p)

/-! ### leaves -/
theorem ev_var {i : Nat} (h : ts[i]? = some (some d)) : EvD K (tVar i) ts m d := fun σ H M S Q q => by
  obtain ⟨v, h1, h2⟩ := S.get h
  exact ⟨v, h1, q v H d m ⟨rfl, rfl⟩ M (Ex.refl _) h2⟩
theorem ev_val {v : V} (h : ∀ H, Den K H v d) : EvD K (tC v) ts m d := fun σ H M S Q q => q v H d m ⟨rfl, rfl⟩ M (Ex.refl _) (h _)
theorem ev_int {i : Int} : EvD K (tC (.int i)) ts m (.int i) := ev_val fun _ => .int i
theorem ev_bl {x : Bool} : EvD K (tC (.bl x)) ts m (.bl x) := ev_val fun _ => .bl x
theorem ev_non : EvD K (tC .non) ts m .non := ev_val fun _ => .non
theorem ev_str {x : Str} : EvD K (tC (.str x)) ts m (.str x) := ev_val fun _ => .str x
theorem ev_ty {x : String} : EvD K (tC (.ty x)) ts m (.ty x) := ev_val fun _ => .ty x
theorem ev_ref {a : Addr} : EvD K (tC (.ref a)) ts m (.ref a) := ev_val fun _ => .ref a

/-! ### arguments -/
theorem ea_nil : EvL K tNil ts m [] := fun σ H M S Q q => q [] H [] m ⟨rfl, rfl⟩ M (Ex.refl _) .nil
theorem ea_cons {tr : TA} {ds : List D} (h : EvD K te ts m d) (hr : EvL K tr ts m ds) : EvL K (tCons te tr) ts m (d :: ds) := fun σ H M S Q q =>
  h σ H M S _ fun v H1 d' m' ⟨e1, e2⟩ M1 x1 r1 => by
    subst e1; subst e2
    refine hr σ H1 M1 (S.mono x1) _ fun vs H2 ds' m'' ⟨e3, e4⟩ M2 x2 r2 => ?_
    subst e3; subst e4
    exact q _ H2 _ _ ⟨rfl, rfl⟩ M2 (x1.trans x2) (.cons (r1.mono x2) r2)
theorem ea_consP {tr : TA} {PA : List D → Mem → Prop} (h : EvP K te ts m fun d m1 => EvA K tr ts m1 fun ds m2 => PA (d :: ds) m2) : EvA K (tCons te tr) ts m PA := fun σ H M S Q q =>
  h σ H M S _ fun v H1 d' m' hr M1 x1 r1 =>
    hr σ H1 M1 (S.mono x1) _ fun vs H2 ds' m'' p M2 x2 r2 => q _ H2 _ _ p M2 (x1.trans x2) (.cons (r1.mono x2) r2)
theorem ea_nilP {PA : List D → Mem → Prop} (p : PA [] m) : EvA K tNil ts m PA := ea_nil.p p

/-! ### a two-place operation on values -/
/-- what an operation on values makes of data, nothing changed -/
def OpD (K : PySem.W.Frag) (r : R2) (d1 d2 : D) (m : Mem) (d : D) : Prop :=
  ∀ v w H, MemOk K H m → Den K (vis m H) v d1 → Den K (vis m H) w d2 → ∀ Q : VK, (∀ z H', MemOk K H' m → Ex (vis m H) (vis m H') → Den K (vis m H') z d → Q z H') → r v w H Q
theorem ev_op {r : R2} (ha : EvD K ta ts m d1) (hb : EvD K tb ts m d2) (hr : OpD K r d1 d2 m d) : EvD K (tOp r ta tb) ts m d := fun σ H M S Q q =>
  ha σ H M S _ fun v H1 d' m' ⟨e1, e2⟩ M1 x1 r1 => by
    subst e1; subst e2
    refine hb σ H1 M1 (S.mono x1) _ fun w H2 d' m' ⟨e1, e2⟩ M2 x2 r2 => ?_
    subst e1; subst e2
    exact hr v w H2 M2 (r1.mono x2) r2 Q fun z H3 M3 x3 r3 => q z H3 _ _ ⟨rfl, rfl⟩ M3 (x1.trans (x2.trans x3)) r3
theorem ev_opP {r : R2} (ha : EvP K ta ts m fun d1 m1 => EvP K tb ts m1 fun d2 m2 => ∃ d, OpD K r d1 d2 m2 d ∧ P d m2) : EvP K (tOp r ta tb) ts m P := fun σ H M S Q q =>
  ha σ H M S _ fun v H1 d1 m1 hb M1 x1 r1 =>
    hb σ H1 M1 (S.mono x1) _ fun w H2 d2 m2 ⟨d, hr, p⟩ M2 x2 r2 =>
      hr v w H2 M2 (r1.mono x2) r2 Q fun z H3 M3 x3 r3 => q z H3 _ _ p M3 (x1.trans (x2.trans x3)) r3
theorem od_I0 {g : Int → Int → V} {i j : Int} (h : ∀ H, Den K H (g i j) d) : OpD K (rI0 g) (.int i) (.int j) m d := fun v w H M r1 r2 Q q => by
  rw [r1.int_of, r2.int_of]; exact ⟨i, j, rfl, rfl, q _ H M (Ex.refl _) (h _)⟩
theorem od_I {C : Int → Int → Prop} {g : Int → Int → V} {i j : Int} (c : C i j) (h : ∀ H, Den K H (g i j) d) : OpD K (rI C g) (.int i) (.int j) m d := fun v w H M r1 r2 Q q => by
  rw [r1.int_of, r2.int_of]; exact ⟨i, j, rfl, rfl, c, q _ H M (Ex.refl _) (h _)⟩
/-- ints in, an int out -/
theorem ev_opI0 {f : Int → Int → Int} {i j : Int} (ha : EvD K ta ts m (.int i)) (hb : EvD K tb ts m (.int j)) : EvD K (tOp (rI0 fun i j => .int (f i j)) ta tb) ts m (.int (f i j)) := ev_op ha hb (od_I0 fun _ => .int _)
theorem ev_opI {C : Int → Int → Prop} {f : Int → Int → Int} {i j : Int} (ha : EvD K ta ts m (.int i)) (hb : EvD K tb ts m (.int j)) (c : C i j) : EvD K (tOp (rI C fun i j => .int (f i j)) ta tb) ts m (.int (f i j)) := ev_op ha hb (od_I c fun _ => .int _)
theorem ev_opB0 {f : Int → Int → Bool} {i j : Int} (ha : EvD K ta ts m (.int i)) (hb : EvD K tb ts m (.int j)) : EvD K (tOp (rI0 fun i j => .bl (f i j)) ta tb) ts m (.bl (f i j)) := ev_op ha hb (od_I0 fun _ => .bl _)
theorem ev_neg {i : Int} {f : Int → Int} (h : EvD K te ts m (.int i)) : EvD K (tUn (rU fun i => .int (f i)) te) ts m (.int (f i)) := fun σ H M S Q q =>
  h σ H M S _ fun v H1 d' m' ⟨e1, e2⟩ M1 x1 r1 => by
    subst e1; subst e2
    rw [r1.int_of]
    exact ⟨i, rfl, q _ H1 _ _ ⟨rfl, rfl⟩ M1 x1 (.int _)⟩
/-- items -/
theorem atI_dens {H : Hp} {vs : List V} {ds : List D} {i : Int} (r : Dens K H vs ds) (h : atI ds i = some d) : ∃ v, atI vs i = some v ∧ Den K H v d := by
  unfold atI at h ⊢
  rw [← r.length] at h
  cases e : ixN vs.length i with
  | none => rw [e] at h; simp at h
  | some j =>
    rw [e] at h
    obtain ⟨v, h1, h2⟩ := r.get (i := j) (d := d) (by simpa using h)
    exact ⟨v, by simpa using h1, h2⟩
theorem od_ixT {ds : List D} {i : Int} (h : atI ds i = some d) : OpD K (rIxT K) (.tup ds) (.int i) m d := fun v w H M r1 r2 Q q => by
  obtain ⟨a, xs, rfl, hs, hd⟩ := r1.tup_of
  obtain ⟨z, h1, h2⟩ := atI_dens hd h
  rw [r2.int_of]
  exact ⟨a, xs, i, z, rfl, rfl, ex_t vis_ex hs, h1, q z H M (Ex.refl _) h2⟩
theorem od_ixL {ds : List D} {i : Int} (h : atI ds i = some d) : OpD K (rIxL K) (.lst ds) (.int i) m d := fun v w H M r1 r2 Q q => by
  obtain ⟨a, xs, rfl, hs, hd⟩ := r1.lst_of
  obtain ⟨z, h1, h2⟩ := atI_dens hd h
  rw [r2.int_of]
  exact ⟨a, xs, i, z, rfl, rfl, ex_l vis_ex hs, h1, q z H M (Ex.refl _) h2⟩
/-- an item of a list of the memory -/
theorem od_ixM {ds : List D} {i : Int} {k : Nat} {l : Addr} (hk : m[k]? = some (l, .lst ds)) (h : atI ds i = some d) : OpD K (rIxL K) (.ref l) (.int i) m d := fun v w H M r1 r2 Q q => by
  obtain ⟨xs, hs, hd⟩ := M.cell hk
  obtain ⟨z, h1, h2⟩ := atI_dens hd h
  rw [r2.int_of, r1.ref_of]
  exact ⟨l, xs, i, z, rfl, rfl, SqL.of hs, h1, q z H M (Ex.refl _) h2⟩
theorem ev_ixT {ds : List D} {i : Int} (ha : EvD K ta ts m (.tup ds)) (hb : EvD K tb ts m (.int i)) (h : atI ds i = some d) : EvD K (tOp (rIxT K) ta tb) ts m d := ev_op ha hb (od_ixT h)
theorem ev_ixL {ds : List D} {i : Int} (ha : EvD K ta ts m (.lst ds)) (hb : EvD K tb ts m (.int i)) (h : atI ds i = some d) : EvD K (tOp (rIxL K) ta tb) ts m d := ev_op ha hb (od_ixL h)
theorem ev_ixM {ds : List D} {i : Int} {k : Nat} {l : Addr} (ha : EvD K ta ts m (.ref l)) (hb : EvD K tb ts m (.int i)) (hk : m[k]? = some (l, .lst ds)) (h : atI ds i = some d) : EvD K (tOp (rIxL K) ta tb) ts m d := ev_op ha hb (od_ixM hk h)

/-! ### comparisons -/
/-- what == tells apart as it stands -/
def scalD : D → Bool
  | .non => true | .bl _ => true | .int _ => true | .str _ => true
  | _ => false
def eqF : D → D → Option Bool
  | .non, .non => some true | .non, .int _ => some false | .int _, .non => some false | .non, .bl _ => some false | .bl _, .non => some false | .non, .str _ => some false | .str _, .non => some false
  | .int i, .int j => some (decide (i = j)) | .bl i, .bl j => some (decide (i = j)) | .str i, .str j => some (decide (i = j))
  | .int _, .str _ => some false | .str _, .int _ => some false | .bl _, .str _ => some false | .str _, .bl _ => some false
  | _, _ => none
theorem eqF_ok {H : Hp} {v w : V} {x : Bool} (r1 : Den K H v d1) (r2 : Den K H w d2) (h : eqF d1 d2 = some x) : scal v w = true ∧ decide (v = w) = x := by
  cases r1 <;> cases r2 <;> simp only [eqF, Option.some.injEq, reduceCtorEq] at h <;> subst h <;> refine ⟨rfl, ?_⟩ <;> first | rfl | (simp; done) | (simp only [decide_eq_decide]; constructor <;> intro z <;> first | (injection z) | rw [z])
theorem ev_eq {x : Bool} (ha : EvD K ta ts m d1) (hb : EvD K tb ts m d2) (h : eqF d1 d2 = some x) : EvD K (tOp rEq ta tb) ts m (.bl x) := ev_op ha hb fun v w H M r1 r2 Q q => by
  obtain ⟨h1, h2⟩ := eqF_ok r1 r2 h
  refine ⟨h1, ?_⟩
  rw [h2]; exact q _ H M (Ex.refl _) (.bl x)
theorem ev_ne {x : Bool} (ha : EvD K ta ts m d1) (hb : EvD K tb ts m d2) (h : eqF d1 d2 = some x) : EvD K (tOp rNe ta tb) ts m (.bl (!x)) := ev_op ha hb fun v w H M r1 r2 Q q => by
  obtain ⟨h1, h2⟩ := eqF_ok r1 r2 h
  refine ⟨h1, ?_⟩
  rw [h2]; exact q _ H M (Ex.refl _) (.bl (!x))
mutual
/-- the data of Python's own == -/
def pyD : D → Option PyData
  | .non => some .none
  | .bl b => some (.bool b)
  | .int i => some (.int i)
  | .str x => some (.str x)
  | .tup ds => (pyDs ds).map .tuple
  | .lst ds => (pyDs ds).map .list
  | _ => none
def pyDs : List D → Option (List PyData)
  | [] => some []
  | d :: ds => match pyD d with
    | some p => (match pyDs ds with
      | some ps => some (p :: ps)
      | none => none)
    | none => none
end
mutual
theorem pyD_ok {H : Hp} : ∀ {v : V} {d : D} {p : PyData}, Den K H v d → pyD d = some p → Dp K H v p
  | _, _, _, .non, h => by simp only [pyD, Option.some.injEq] at h; subst h; exact .non
  | _, _, _, .bl b, h => by simp only [pyD, Option.some.injEq] at h; subst h; exact .bl b
  | _, _, _, .int b, h => by simp only [pyD, Option.some.injEq] at h; subst h; exact .int b
  | _, _, _, .str b, h => by simp only [pyD, Option.some.injEq] at h; subst h; exact .str b
  | _, _, _, .ty b, h => by simp [pyD] at h
  | _, _, _, .ref b, h => by simp [pyD] at h
  | _, _, _, .ins _ _, h => by simp [pyD] at h
  | _, _, _, .tup (ds := ds) hs r, h => by
    simp only [pyD] at h
    cases e : pyDs ds with
    | none => rw [e] at h; simp at h
    | some ps => rw [e] at h; simp at h; subst h; exact .tup hs (pyDs_ok r e)
  | _, _, _, .lst (ds := ds) hs r, h => by
    simp only [pyD] at h
    cases e : pyDs ds with
    | none => rw [e] at h; simp at h
    | some ps => rw [e] at h; simp at h; subst h; exact .lst hs (pyDs_ok r e)
theorem pyDs_ok {H : Hp} : ∀ {vs : List V} {ds : List D} {ps : List PyData}, Dens K H vs ds → pyDs ds = some ps → DpAll K H vs ps
  | _, _, _, .nil, h => by simp only [pyDs, Option.some.injEq] at h; subst h; exact .nil
  | _, _, _, .cons (d := d) (ds := ds) r rs, h => by
    simp only [pyDs] at h
    cases e : pyD d with
    | none => rw [e] at h; simp at h
    | some p =>
      rw [e] at h
      cases e2 : pyDs ds with
      | none => rw [e2] at h; simp at h
      | some ps => rw [e2] at h; simp at h; subst h; exact .cons (pyD_ok r e) (pyDs_ok rs e2)
end
mutual
theorem Dp.mono {H H' : Hp} (e : Ex H H') : ∀ {v : V} {d : PyData}, Dp K H v d → Dp K H' v d
  | _, _, .non => .non
  | _, _, .bl b => .bl b
  | _, _, .int i => .int i
  | _, _, .str x => .str x
  | _, _, .tup h hs => .tup (ex_t e h) (DpAll.mono e hs)
  | _, _, .lst h hs => .lst (ex_l e h) (DpAll.mono e hs)
theorem DpAll.mono {H H' : Hp} (e : Ex H H') : ∀ {vs : List V} {ds : List PyData}, DpAll K H vs ds → DpAll K H' vs ds
  | _, _, .nil => .nil
  | _, _, .cons h hs => .cons (Dp.mono e h) (DpAll.mono e hs)
end
/-- == and != of data at any depth -/
theorem ev_eqD {p1 p2 : PyData} (ha : EvD K ta ts m d1) (hb : EvD K tb ts m d2) (h1 : pyD d1 = some p1) (h2 : pyD d2 = some p2) (s1 : SeqAt.shaped p1 = true) (s2 : SeqAt.shaped p2 = true) :
    EvD K (tOp (rEqD K) ta tb) ts m (.bl (PyData.eqv p1 p2)) := ev_op ha hb fun v w H M r1 r2 Q q =>
  ⟨p1, p2, Dp.mono vis_ex (pyD_ok r1 h1), Dp.mono vis_ex (pyD_ok r2 h2), s1, s2, q _ H M (Ex.refl _) (.bl _)⟩
theorem ev_neD {p1 p2 : PyData} (ha : EvD K ta ts m d1) (hb : EvD K tb ts m d2) (h1 : pyD d1 = some p1) (h2 : pyD d2 = some p2) (s1 : SeqAt.shaped p1 = true) (s2 : SeqAt.shaped p2 = true) :
    EvD K (tOp (rNeD K) ta tb) ts m (.bl (!PyData.eqv p1 p2)) := ev_op ha hb fun v w H M r1 r2 Q q =>
  ⟨p1, p2, Dp.mono vis_ex (pyD_ok r1 h1), Dp.mono vis_ex (pyD_ok r2 h2), s1, s2, q _ H M (Ex.refl _) (.bl _)⟩
theorem ev_isN {x : Bool} (ha : EvD K ta ts m d) (hx : (match d with | .non => true | _ => false) = x) : EvD K (tIsN ta) ts m (.bl x) := fun σ H M S Q q =>
  ha σ H M S _ fun v H1 d' m' ⟨e1, e2⟩ M1 x1 r1 => by
    subst e1; subst e2
    have e : decide (v = V.non) = x := by subst hx; cases r1 <;> rfl
    rw [e]; exact q _ H1 _ _ ⟨rfl, rfl⟩ M1 x1 (.bl x)
theorem ev_notN {x : Bool} (ha : EvD K ta ts m d) (hx : (match d with | .non => true | _ => false) = x) : EvD K (tNotN ta) ts m (.bl (!x)) := fun σ H M S Q q =>
  ha σ H M S _ fun v H1 d' m' ⟨e1, e2⟩ M1 x1 r1 => by
    subst e1; subst e2
    have e : decide (v = V.non) = x := by subst hx; cases r1 <;> rfl
    rw [e]; exact q _ H1 _ _ ⟨rfl, rfl⟩ M1 x1 (.bl (!x))

/-! ### tests -/
theorem et_test (h : EvD K te ts m (.bl b)) : EvT K (tTest te) ts m b := fun σ H M S Q q =>
  h σ H M S _ fun v H1 d' m' ⟨e1, e2⟩ M1 x1 r1 => by
    subst e1; subst e2
    exact ⟨b, r1.bl_of, q b H1 _ ⟨rfl, rfl⟩ M1 x1⟩
theorem et_B (h : EvD K te ts m (.bl b)) : EvT K (tB te) ts m b := et_test h
theorem et_testP (h : EvP K te ts m fun d m' => ∃ b, d = .bl b ∧ PB b m') : EvB K (tTest te) ts m PB := fun σ H M S Q q =>
  h σ H M S _ fun v H1 d' m' ⟨b, e1, p⟩ M1 x1 r1 => by
    subst e1
    exact ⟨b, r1.bl_of, q b H1 _ p M1 x1⟩
theorem et_and1 (h : EvT K t ts m true) (hb : EvT K u ts m b) : EvT K (tAnd t u) ts m b := fun σ H M S Q q =>
  h σ H M S _ fun x H1 m' ⟨e1, e2⟩ M1 x1 => by
    subst e1; subst e2
    rw [if_pos rfl]
    exact hb σ H1 M1 (S.mono x1) _ fun y H2 m' ⟨e1, e2⟩ M2 x2 => q y H2 _ ⟨e1, e2⟩ M2 (x1.trans (e2 ▸ x2))
theorem et_and0 (h : EvT K t ts m false) : EvT K (tAnd t u) ts m false := fun σ H M S Q q =>
  h σ H M S _ fun x H1 m' ⟨e1, e2⟩ M1 x1 => by
    subst e1; subst e2
    rw [if_neg Bool.false_ne_true]
    exact q _ H1 _ ⟨rfl, rfl⟩ M1 x1
theorem et_and (h : EvT K t ts m b1) (hb : b1 = true → EvT K u ts m b2) : EvT K (tAnd t u) ts m (b1 && b2) := by
  cases b1 with
  | true => exact et_and1 h (hb rfl)
  | false => exact et_and0 h
theorem et_or1 (h : EvT K t ts m true) : EvT K (tOr t u) ts m true := fun σ H M S Q q =>
  h σ H M S _ fun x H1 m' ⟨e1, e2⟩ M1 x1 => by
    subst e1; subst e2
    rw [if_pos rfl]
    exact q _ H1 _ ⟨rfl, rfl⟩ M1 x1
theorem et_or0 (h : EvT K t ts m false) (hb : EvT K u ts m b) : EvT K (tOr t u) ts m b := fun σ H M S Q q =>
  h σ H M S _ fun x H1 m' ⟨e1, e2⟩ M1 x1 => by
    subst e1; subst e2
    rw [if_neg Bool.false_ne_true]
    exact hb σ H1 M1 (S.mono x1) _ fun y H2 m' ⟨e1, e2⟩ M2 x2 => q y H2 _ ⟨e1, e2⟩ M2 (x1.trans (e2 ▸ x2))
theorem et_or (h : EvT K t ts m b1) (hb : b1 = false → EvT K u ts m b2) : EvT K (tOr t u) ts m (b1 || b2) := by
  cases b1 with
  | true => exact et_or1 h
  | false => exact et_or0 h (hb rfl)
theorem et_not (h : EvT K t ts m b) : EvT K (tNot t) ts m (!b) := fun σ H M S Q q =>
  h σ H M S _ fun x H1 m' ⟨e1, e2⟩ M1 x1 => by
    subst e1; subst e2
    exact q _ H1 _ ⟨rfl, rfl⟩ M1 x1
theorem et_yes : EvT K tYes ts m true := fun σ H M S Q q => q true H m ⟨rfl, rfl⟩ M (Ex.refl _)
theorem ev_and1 (h : EvD K ta ts m (.bl true)) (hb : EvD K tb ts m (.bl b)) : EvD K (tAndV ta tb) ts m (.bl b) := fun σ H M S Q q =>
  h σ H M S _ fun v H1 d' m' ⟨e1, e2⟩ M1 x1 r1 => by
    subst e1; subst e2
    refine ⟨true, r1.bl_of, ?_⟩
    rw [if_pos rfl]
    exact hb σ H1 M1 (S.mono x1) _ fun y H2 d m' ⟨e1, e2⟩ M2 x2 r2 => q y H2 _ _ ⟨e1, e2⟩ M2 (x1.trans (e2 ▸ x2)) (e2 ▸ r2)
theorem ev_and0 (h : EvD K ta ts m (.bl false)) : EvD K (tAndV ta tb) ts m (.bl false) := fun σ H M S Q q =>
  h σ H M S _ fun v H1 d' m' ⟨e1, e2⟩ M1 x1 r1 => by
    subst e1; subst e2
    refine ⟨false, r1.bl_of, ?_⟩
    rw [if_neg Bool.false_ne_true]
    exact q _ H1 _ _ ⟨rfl, rfl⟩ M1 x1 (.bl false)
theorem ev_and (h : EvD K ta ts m (.bl b1)) (hb : b1 = true → EvD K tb ts m (.bl b2)) : EvD K (tAndV ta tb) ts m (.bl (b1 && b2)) := by
  cases b1 with
  | true => exact ev_and1 h (hb rfl)
  | false => exact ev_and0 h
theorem ev_or1 (h : EvD K ta ts m (.bl true)) : EvD K (tOrV ta tb) ts m (.bl true) := fun σ H M S Q q =>
  h σ H M S _ fun v H1 d' m' ⟨e1, e2⟩ M1 x1 r1 => by
    subst e1; subst e2
    refine ⟨true, r1.bl_of, ?_⟩
    rw [if_pos rfl]
    exact q _ H1 _ _ ⟨rfl, rfl⟩ M1 x1 (.bl true)
theorem ev_or0 (h : EvD K ta ts m (.bl false)) (hb : EvD K tb ts m (.bl b)) : EvD K (tOrV ta tb) ts m (.bl b) := fun σ H M S Q q =>
  h σ H M S _ fun v H1 d' m' ⟨e1, e2⟩ M1 x1 r1 => by
    subst e1; subst e2
    refine ⟨false, r1.bl_of, ?_⟩
    rw [if_neg Bool.false_ne_true]
    exact hb σ H1 M1 (S.mono x1) _ fun y H2 d m' ⟨e1, e2⟩ M2 x2 r2 => q y H2 _ _ ⟨e1, e2⟩ M2 (x1.trans (e2 ▸ x2)) (e2 ▸ r2)
theorem ev_or (h : EvD K ta ts m (.bl b1)) (hb : b1 = false → EvD K tb ts m (.bl b2)) : EvD K (tOrV ta tb) ts m (.bl (b1 || b2)) := by
  cases b1 with
  | true => exact ev_or1 h
  | false => exact ev_or0 h (hb rfl)
theorem ev_not (h : EvD K ta ts m (.bl b)) : EvD K (tNotV ta) ts m (.bl (!b)) := fun σ H M S Q q =>
  h σ H M S _ fun v H1 d' m' ⟨e1, e2⟩ M1 x1 r1 => by
    subst e1; subst e2
    exact ⟨b, r1.bl_of, q _ H1 _ _ ⟨rfl, rfl⟩ M1 x1 (.bl _)⟩
theorem ev_if1 (h : EvT K t ts m true) (ha : EvP K ta ts m P) : EvP K (tIf t ta tb) ts m P := fun σ H M S Q q =>
  h σ H M S _ fun x H1 m' ⟨e1, e2⟩ M1 x1 => by
    subst e1; subst e2
    rw [if_pos rfl]
    exact ha σ H1 M1 (S.mono x1) _ fun y H2 d m' p M2 x2 r2 => q y H2 d m' p M2 (x1.trans x2) r2
theorem ev_if0 (h : EvT K t ts m false) (hb : EvP K tb ts m P) : EvP K (tIf t ta tb) ts m P := fun σ H M S Q q =>
  h σ H M S _ fun x H1 m' ⟨e1, e2⟩ M1 x1 => by
    subst e1; subst e2
    rw [if_neg Bool.false_ne_true]
    exact hb σ H1 M1 (S.mono x1) _ fun y H2 d m' p M2 x2 r2 => q y H2 d m' p M2 (x1.trans x2) r2
theorem ev_if (h : EvT K t ts m b) (ha : b = true → EvD K ta ts m d) (hb : b = false → EvD K tb ts m d) : EvD K (tIf t ta tb) ts m d := by
  cases b with
  | true => exact ev_if1 h (ha rfl)
  | false => exact ev_if0 h (hb rfl)
/-- low <= value <= high -/
theorem ev_chain {tc : TE} {r r' : R2} {d3 : D} (ha : EvD K ta ts m d1) (hb : EvD K tb ts m d2) (hr : OpD K r d1 d2 m (.bl b1)) (hc : b1 = true → EvD K tc ts m d3) (hr' : b1 = true → OpD K r' d2 d3 m (.bl b2)) :
    EvD K (tChain r r' ta tb tc) ts m (.bl (b1 && b2)) := fun σ H M S Q q =>
  ha σ H M S _ fun v H1 d' m' ⟨e1, e2⟩ M1 x1 r1 => by
    subst e1; subst e2
    refine hb σ H1 M1 (S.mono x1) _ fun w H2 d' m' ⟨e1, e2⟩ M2 x2 r2 => ?_
    subst e1; subst e2
    refine hr v w H2 M2 (r1.mono x2) r2 _ fun z H3 M3 x3 r3 => ⟨b1, r3.bl_of, ?_⟩
    cases b1 with
    | false => rw [if_neg Bool.false_ne_true]; exact q _ H3 _ _ ⟨rfl, rfl⟩ M3 (x1.trans (x2.trans x3)) (.bl _)
    | true =>
      rw [if_pos rfl]
      refine hc rfl σ H3 M3 (S.mono (x1.trans (x2.trans x3))) _ fun w2 H4 d' m' ⟨e1, e2⟩ M4 x4 r4 => ?_
      subst e1; subst e2
      exact hr' rfl w w2 H4 M4 (r2.mono (x3.trans x4)) r4 _ fun z2 H5 M5 x5 r5 => q z2 H5 _ _ ⟨by rfl, rfl⟩ M5 (x1.trans (x2.trans (x3.trans (x4.trans x5)))) r5

/-! ### displays -/
theorem sizeL {n : Nat} (h : n ≤ 100000) : n ≤ sizeLine := sz_of h
theorem ev_tup {tl : TA} {ds : List D} (h : EvL K tl ts m ds) (hl : ds.length ≤ 100000 := by decide) : EvD K (tTup tl) ts m (.tup ds) := fun σ H M S Q q =>
  h σ H M S _ fun vs H1 d' m' ⟨e1, e2⟩ M1 x1 r1 => by
    subst e1; subst e2
    refine ⟨sizeL (by rw [r1.length]; exact hl), fun p hp => ?_⟩
    exact q _ _ _ _ ⟨rfl, rfl⟩ (M1.new hp) (x1.trans (ex_new hp)) (.tup (SqT.of (vis_new M1 hp)) (r1.mono (ex_new hp)))
theorem ev_tupP {tl : TA} (h : EvA K tl ts m fun ds m' => P (.tup ds) m' ∧ ds.length ≤ 100000) : EvP K (tTup tl) ts m P := fun σ H M S Q q =>
  h σ H M S _ fun vs H1 d' m' ⟨p0, hl⟩ M1 x1 r1 => by
    refine ⟨sizeL (by rw [r1.length]; exact hl), fun p hp => ?_⟩
    exact q _ _ _ _ p0 (M1.new hp) (x1.trans (ex_new hp)) (.tup (SqT.of (vis_new M1 hp)) (r1.mono (ex_new hp)))
theorem ev_lst {tl : TA} {ds : List D} (h : EvL K tl ts m ds) (hl : ds.length ≤ 100000 := by decide) : EvD K (tLst tl) ts m (.lst ds) := fun σ H M S Q q =>
  h σ H M S _ fun vs H1 d' m' ⟨e1, e2⟩ M1 x1 r1 => by
    subst e1; subst e2
    refine ⟨sizeL (by rw [r1.length]; exact hl), fun p hp => ?_⟩
    exact q _ _ _ _ ⟨rfl, rfl⟩ (M1.new hp) (x1.trans (ex_new hp)) (.lst (SqL.of (vis_new M1 hp)) (r1.mono (ex_new hp)))
theorem ev_lstP {tl : TA} (h : EvA K tl ts m fun ds m' => P (.lst ds) m' ∧ ds.length ≤ 100000) : EvP K (tLst tl) ts m P := fun σ H M S Q q =>
  h σ H M S _ fun vs H1 d' m' ⟨p0, hl⟩ M1 x1 r1 => by
    refine ⟨sizeL (by rw [r1.length]; exact hl), fun p hp => ?_⟩
    exact q _ _ _ _ p0 (M1.new hp) (x1.trans (ex_new hp)) (.lst (SqL.of (vis_new M1 hp)) (r1.mono (ex_new hp)))
/-- a new list that will change: into the memory -/
theorem ev_lstM {tl : TA} (h : EvA K tl ts m fun ds m' => ds.length ≤ 100000 ∧ ∀ l, l ∉ m'.map (·.1) → P (.ref l) ((l, .lst ds) :: m')) : EvP K (tLst tl) ts m P := fun σ H M S Q q =>
  h σ H M S _ fun vs H1 d' m' ⟨hl, p0⟩ M1 x1 r1 => by
    refine ⟨sizeL (by rw [r1.length]; exact hl), fun p hp => ?_⟩
    exact q _ _ _ _ (p0 p (M1.fresh hp)) (M1.add hp ⟨vs, upd_same, r1⟩) (x1.trans (ex_add hp)) (.ref p)
end
end RA
set_option Elab.async false
set_option linter.all false
set_option maxRecDepth 100000
set_option maxHeartbeats 4000000
namespace RA
open PySem PySem.Spec PyProof.Rows L2 Evl

/-! ### statements -/
/-- how a statement ends: on to the next, a value handed back, break, continue, an error of the class at C with its fields -/
inductive Oc where
  | nx (ts : TSt) (m : Mem) | rt (d : D) (m : Mem) | bk (ts : TSt) (m : Mem) | ct (ts : TSt) (m : Mem) | ra (C : Addr) (fs : List (Str × D)) (m : Mem)
/-- an error as it lies: its class, its own dict -/
def ErrOk (K : PySem.W.Frag) (G H : Hp) (cls : Value) (dd : Option Addr) (C : Addr) (fs : List (Str × D)) (m : Mem) : Prop :=
  cls = .ref C ∧ (fs = [] ∨ ∃ d, dd = some d ∧ G d = none ∧ MemOk K H ((d, .xd fs) :: m))
theorem ErrOk.back {K : PySem.W.Frag} {G G' H : Hp} {cls : Value} {dd : Option Addr} {C : Addr} {fs : List (Str × D)} {m : Mem} (e : Ex G G') (h : ErrOk K G' H cls dd C fs m) : ErrOk K G H cls dd C fs m := by
  obtain ⟨h1, h2⟩ := h
  refine ⟨h1, h2.imp id fun ⟨d, ed, g, M⟩ => ⟨d, ed, fresh_back e g, M⟩⟩
def Kt (K : PySem.W.Frag) (G : Hp) (De : Ends) (E : XK) : Oc → Prop
  | .nx ts m => ∀ σ H, MemOk K H m → Ex G (vis m H) → StOk K (vis m H) σ ts → De.nx σ H
  | .bk ts m => ∀ σ H, MemOk K H m → Ex G (vis m H) → StOk K (vis m H) σ ts → De.bk σ H
  | .ct ts m => ∀ σ H, MemOk K H m → Ex G (vis m H) → StOk K (vis m H) σ ts → De.ct σ H
  | .rt d m => ∀ v H, MemOk K H m → Ex G (vis m H) → Den K (vis m H) v d → De.rt v H
  | .ra C fs m => ∀ cls dd H, MemOk K H m → Ex G (vis m H) → ErrOk K G H cls dd C fs m → E cls dd H
def ExS (K : PySem.W.Frag) (E : XK) (t : TS) (ts : TSt) (m : Mem) (P : Oc → Prop) : Prop :=
  ∀ σ H De, MemOk K H m → StOk K (vis m H) σ ts → (∀ o, P o → Kt K (vis m H) De E o) → t De σ H
section
variable {K : PySem.W.Frag} {E : XK} {G G' : Hp} {De : Ends} {t u : TS} {ts : TSt} {m : Mem} {P P' : Oc → Prop} {te ta : TE} {d : D} {b : Bool} {tt : TT}
theorem Kt.mono (e : Ex G G') {o : Oc} (k : Kt K G De E o) : Kt K G' De E o := by
  cases o with
  | nx ts m => exact fun σ H M x S => k σ H M (e.trans x) S
  | bk ts m => exact fun σ H M x S => k σ H M (e.trans x) S
  | ct ts m => exact fun σ H M x S => k σ H M (e.trans x) S
  | rt d m => exact fun σ H M x S => k σ H M (e.trans x) S
  | ra C fs m => exact fun cls dd H M x S => k cls dd H M (e.trans x) (S.back e)
theorem ExS.imp (h : ExS K E t ts m P) (f : ∀ o, P o → P' o) : ExS K E t ts m P' := fun σ H De M S k => h σ H De M S fun o p => k o (f o p)
/-- what a statement is to reach: the rest from there -/
def Then (K : PySem.W.Frag) (E : XK) (u : TS) (P : Oc → Prop) : Oc → Prop
  | .nx ts m => ExS K E u ts m P
  | .bk ts m => P (.bk ts m)
  | .ct ts m => P (.ct ts m)
  | .rt d m => P (.rt d m)
  | .ra C fs m => P (.ra C fs m)
theorem s_seq (h : ExS K E t ts m (Then K E u P)) : ExS K E (tSeq t u) ts m P := fun σ H De M S k => by
  refine h σ H { De with nx := u De } M S fun o p => ?_
  cases o with
  | nx ts1 m1 => exact fun σ1 H1 M1 x1 S1 => p σ1 H1 De M1 S1 fun o q => (k o q).mono x1
  | bk ts1 m1 => exact k _ p
  | ct ts1 m1 => exact k _ p
  | rt d m1 => exact k _ p
  | ra C fs m1 => exact k _ p
theorem s_next (p : P (.nx ts m)) : ExS K E tNext ts m P := fun σ H De M S k => k _ p σ H M (Ex.refl _) S
theorem s_break (p : P (.bk ts m)) : ExS K E tBreak ts m P := fun σ H De M S k => k _ p σ H M (Ex.refl _) S
theorem s_cont (p : P (.ct ts m)) : ExS K E tCont ts m P := fun σ H De M S k => k _ p σ H M (Ex.refl _) S
theorem s_asgP {i : Nat} (h : EvP K te ts m fun d m' => P (.nx (ts.set i (some d)) m')) : ExS K E (tAsg te (gName i)) ts m P := fun σ H De M S k =>
  h σ H M S _ fun v H1 d m1 p M1 x1 r1 => k _ p _ H1 M1 x1 ((S.mono x1).set r1 i)
theorem s_asg {i : Nat} (h : EvD K te ts m d) (p : P (.nx (ts.set i (some d)) m)) : ExS K E (tAsg te (gName i)) ts m P := s_asgP (h.p p)
theorem s_dropP (h : EvP K te ts m fun _ m' => P (.nx ts m')) : ExS K E (tDrop te) ts m P := fun σ H De M S k =>
  h σ H M S _ fun v H1 d m1 p M1 x1 r1 => k _ p _ H1 M1 x1 (S.mono x1)
theorem s_retP (h : EvP K te ts m fun d m' => P (.rt d m')) : ExS K E (tRet te) ts m P := fun σ H De M S k =>
  h σ H M S _ fun v H1 d m1 p M1 x1 r1 => k _ p _ H1 M1 x1 r1
theorem s_ret (h : EvD K te ts m d) (p : P (.rt d m)) : ExS K E (tRet te) ts m P := s_retP (h.p p)
theorem s_retN (p : P (.rt .non m)) : ExS K E tRetN ts m P := fun σ H De M S k => k _ p _ H M (Ex.refl _) .non
theorem s_ifP (h : EvB K tt ts m fun b m' => if b = true then ExS K E t ts m' P else ExS K E u ts m' P) : ExS K E (tIfS tt t u) ts m P := fun σ H De M S k =>
  h σ H M S _ fun b H1 m1 p M1 x1 => by
    have p' : if b = true then ExS K E t ts m1 P else ExS K E u ts m1 P := p
    by_cases c : b = true
    · rw [if_pos c] at p' ⊢; exact p' σ H1 De M1 (S.mono x1) fun o q => (k o q).mono x1
    · rw [if_neg c] at p' ⊢; exact p' σ H1 De M1 (S.mono x1) fun o q => (k o q).mono x1
theorem s_if (h : EvT K tt ts m b) (h1 : b = true → ExS K E t ts m P) (h2 : b = false → ExS K E u ts m P) : ExS K E (tIfS tt t u) ts m P := s_ifP (h.p (by
  cases b with
  | true => rw [if_pos rfl]; exact h1 rfl
  | false => rw [if_neg Bool.false_ne_true]; exact h2 rfl))
theorem s_if1 (h : EvT K tt ts m true) (h1 : ExS K E t ts m P) : ExS K E (tIfS tt t u) ts m P := s_if h (fun _ => h1) (fun z => nomatch z)
theorem s_if0 (h : EvT K tt ts m false) (h1 : ExS K E u ts m P) : ExS K E (tIfS tt t u) ts m P := s_if h (fun z => nomatch z) (fun _ => h1)
/-- a, b = x, y -/
theorem s_par {i j : Nat} {tl : TA} {d1 d2 : D} (h : EvL K tl ts m [d1, d2]) (p : P (.nx ((ts.set i (some d1)).set j (some d2)) m)) : ExS K E (tPar i j tl) ts m P := fun σ H De M S k =>
  h σ H M S _ fun vs H1 ds m1 ⟨e1, e2⟩ M1 x1 r1 => by
    subst e1; subst e2
    cases r1 with
    | cons ra rr =>
      cases rr with
      | cons rb rn =>
        cases rn
        exact ⟨_, _, rfl, k _ p _ H1 M1 x1 (((S.mono x1).set ra i).set rb j)⟩
theorem s_parP {i j : Nat} {tl : TA} (h : EvA K tl ts m fun ds m1 => ∃ d1 d2, ds = [d1, d2] ∧ P (.nx ((ts.set i (some d1)).set j (some d2)) m1)) : ExS K E (tPar i j tl) ts m P := fun σ H De M S k =>
  h σ H M S _ fun vs H1 ds m1 ⟨d1, d2, e1, p⟩ M1 x1 r1 => by
    subst e1
    cases r1 with
    | cons ra rr =>
      cases rr with
      | cons rb rn =>
        cases rn
        exact ⟨_, _, rfl, k _ p _ H1 M1 x1 (((S.mono x1).set ra i).set rb j)⟩
end

/-! ### targets -/
/-- storing d leads from ts to ts'; the slots at ws alone change -/
def GtD (K : PySem.W.Frag) (g : TG) (ws : List Nat) (d : D) (ts : TSt) (m : Mem) (ts' : TSt) : Prop :=
  ∀ v σ H, MemOk K H m → Den K (vis m H) v d → StOk K (vis m H) σ ts → ∀ Q : L2.St → Hp → Prop, (∀ σ', L2.wipe σ' ws = L2.wipe σ ws → StOk K (vis m H) σ' ts' → Q σ' H) → g v σ H Q
def GsD (K : PySem.W.Frag) (g : TGs) (ws : List Nat) (ds : List D) (ts : TSt) (m : Mem) (ts' : TSt) : Prop :=
  ∀ vs σ H, MemOk K H m → Dens K (vis m H) vs ds → StOk K (vis m H) σ ts → ∀ Q : L2.St → Hp → Prop, (∀ σ', L2.wipe σ' ws = L2.wipe σ ws → StOk K (vis m H) σ' ts' → Q σ' H) → g vs σ H Q
section
variable {K : PySem.W.Frag} {g : TG} {gs : TGs} {ws : List Nat} {d : D} {ds : List D} {ts ts1 ts2 : TSt} {m : Mem}
theorem gt_name {i : Nat} (h : i ∈ ws) : GtD K (gName i) ws d ts m (ts.set i (some d)) := fun v σ H M r S Q q => q _ (wipe_set h) (S.set r i)
theorem gt_nm {i : Nat} : GtD K (gName i) [i] d ts m (ts.set i (some d)) := gt_name List.mem_cons_self
theorem gs_nil : GsD K gNil ws [] ts m ts := fun vs σ H M r S Q q => by cases r; exact ⟨rfl, q σ rfl S⟩
theorem gs_cons (h : GtD K g ws d ts m ts1) (hr : GsD K gs ws ds ts1 m ts2) : GsD K (gCons g gs) ws (d :: ds) ts m ts2 := fun vs σ H M r S Q q => by
  cases r with
  | cons r1 rr => exact ⟨_, _, rfl, h _ σ H M r1 S _ fun σ1 e1 S1 => hr _ σ1 H M rr S1 _ fun σ2 e2 S2 => q σ2 (e2.trans e1) S2⟩
theorem gt_tup {n : Nat} (h : GsD K gs ws ds ts m ts1) (hn : ds.length = n) : GtD K (gTup K n gs) ws (.tup ds) ts m ts1 := fun v σ H M r S Q q => by
  obtain ⟨a, xs, rfl, hs, hd⟩ := r.tup_of
  exact ⟨a, xs, rfl, ex_t vis_ex hs, by rw [hd.length, hn], h xs σ H M hd S Q q⟩
theorem gt_lst {n : Nat} (h : GsD K gs ws ds ts m ts1) (hn : ds.length = n) : GtD K (gLst K n gs) ws (.lst ds) ts m ts1 := fun v σ H M r S Q q => by
  obtain ⟨a, xs, rfl, hs, hd⟩ := r.lst_of
  exact ⟨a, xs, rfl, ex_l vis_ex hs, by rw [hd.length, hn], h xs σ H M hd S Q q⟩
end
section
variable {K : PySem.W.Frag} {E : XK} {te : TE} {g : TG} {ts ts' : TSt} {m : Mem} {d : D} {P : Oc → Prop}
/-- target = e, the target of any form -/
theorem s_asgGP (h : EvP K te ts m fun d m' => ∃ ws ts', GtD K g ws d ts m' ts' ∧ P (.nx ts' m')) : ExS K E (tAsg te g) ts m P := fun σ H De M S k =>
  h σ H M S _ fun v H1 d m1 ⟨ws, ts', hg, p⟩ M1 x1 r1 => hg v σ H1 M1 r1 (S.mono x1) _ fun σ' _ S' => k _ p σ' H1 M1 x1 S'
theorem gt_any {ws : List Nat} (h : ∀ ws, GtD K g ws d ts m ts') : GtD K g ws d ts m ts' := h ws
end

/-! ### what is walked -/
/-- the walked thing yields ds, one after the other; Pm: what the memory has to keep meanwhile -/
def WkD (K : PySem.W.Frag) (wi : TI) (ts : TSt) (m : Mem) (Pm : Mem → Prop) (ds : List D) : Prop :=
  ∀ σ H, MemOk K H m → StOk K (vis m H) σ ts → ∀ R : It → Hp → Prop,
    (∀ J H1, MemOk K H1 m → Ex (vis m H) (vis m H1) →
      (∀ m' H2, Pm m' → MemOk K H2 m' → Ex (vis m H1) (vis m' H2) → (∀ i, ds.length ≤ i → J.stop i H2) ∧
        ∀ i d, ds[i]? = some d → J.go i H2 ∧ ∀ x H3, J.yld i H2 x H3 → MemOk K H3 m' ∧ Ex (vis m' H2) (vis m' H3) ∧ Den K (vis m' H3) x d) → R J H1) → wi σ H R
section
variable {K : PySem.W.Frag} {ts : TSt} {m : Mem} {te : TE} {ta : TA} {ds es : List D}
theorem wk_list (h : EvD K te ts m (.lst ds)) : WkD K (iList K te) ts m (fun _ => True) ds := fun σ H M S R k =>
  h σ H M S _ fun v H1 d' m' ⟨e1, e2⟩ M1 x1 r1 => by
    subst e1; subst e2
    obtain ⟨a, xs, rfl, hs, hd⟩ := r1.lst_of
    refine ⟨a, rfl, ⟨xs, ex_l vis_ex hs⟩, k _ H1 M1 x1 fun m' H2 _ M2 x2 => ?_⟩
    have hs2 : SqL K H2 a xs := ex_l (x2.trans vis_ex) hs
    refine ⟨fun i hi => ⟨xs, hs2, by rw [hd.length]; exact hi⟩, fun i d hi => ?_⟩
    obtain ⟨x, h1, h2⟩ := hd.get hi
    refine ⟨⟨xs, x, hs2, h1⟩, fun y H3 ⟨eH, hy⟩ => ?_⟩
    subst eH
    have := hy xs hs2
    rw [h1] at this; cases this
    exact ⟨M2, Ex.refl _, h2.mono x2⟩
theorem wk_tup (h : EvD K te ts m (.tup ds)) : WkD K (iTup K te) ts m (fun _ => True) ds := fun σ H M S R k =>
  h σ H M S _ fun v H1 d' m' ⟨e1, e2⟩ M1 x1 r1 => by
    subst e1; subst e2
    obtain ⟨a, xs, rfl, hs, hd⟩ := r1.tup_of
    refine ⟨a, rfl, ⟨xs, ex_t vis_ex hs⟩, k _ H1 M1 x1 fun m' H2 _ M2 x2 => ?_⟩
    have hs2 : SqT K H2 a xs := ex_t (x2.trans vis_ex) hs
    refine ⟨fun i hi => ⟨xs, hs2, by rw [hd.length]; exact hi⟩, fun i d hi => ?_⟩
    obtain ⟨x, h1, h2⟩ := hd.get hi
    refine ⟨⟨xs, x, hs2, h1⟩, fun y H3 ⟨eH, hy⟩ => ?_⟩
    subst eH
    have := hy xs hs2
    rw [h1] at this; cases this
    exact ⟨M2, Ex.refl _, h2.mono x2⟩
/-- lo, lo + 1, .. -/
def rngD (lo hi : Int) : List D := (List.range (hi - lo).toNat).map fun i : Nat => .int (lo + (i : Int))
theorem wk_itr {lo : Int} {n : Nat} {H1 : Hp} : ∀ (m' : Mem) (H2 : Hp), True → MemOk K H2 m' → Ex (vis m H1) (vis m' H2) → (∀ i, ((List.range n).map fun i : Nat => D.int (lo + (i : Int))).length ≤ i → (Itr lo n).stop i H2) ∧
        ∀ i d, ((List.range n).map fun i : Nat => D.int (lo + (i : Int)))[i]? = some d → (Itr lo n).go i H2 ∧ ∀ x H3, (Itr lo n).yld i H2 x H3 → MemOk K H3 m' ∧ Ex (vis m' H2) (vis m' H3) ∧ Den K (vis m' H3) x d := fun m' H2 _ M2 x2 => by
  refine ⟨fun i hi => by
    have h : n ≤ i := by simpa using hi
    exact h, fun i d hi => ?_⟩
  have hl : i < n := by
    have := (List.getElem?_eq_some_iff.mp hi).1
    simpa using this
  refine ⟨hl, fun x H3 ⟨eH, ex⟩ => ?_⟩
  subst eH; subst ex
  refine ⟨M2, Ex.refl _, ?_⟩
  rw [List.getElem?_map, List.getElem?_range hl] at hi
  simp only [Option.map_some, Option.some.injEq] at hi
  subst hi
  exact .int _
theorem wk_rng1 {n : Int} (h : EvL K ta ts m [.int n]) (h1 : -(2 ^ 62) ≤ n) (h2 : n < 2 ^ 62) : WkD K (iRng1 ta) ts m (fun _ => True) (rngD 0 n) := fun σ H M S R k =>
  h σ H M S _ fun vs H1 d' m' ⟨e1, e2⟩ M1 x1 r1 => by
    subst e1; subst e2
    cases r1 with
    | cons r rn =>
      cases rn
      rw [r.int_of]
      refine ⟨n, rfl, h1, h2, k _ H1 M1 x1 ?_⟩
      have e : rngD 0 n = (List.range n.toNat).map fun i : Nat => D.int (0 + (i : Int)) := by unfold rngD; rw [Int.sub_zero]
      rw [e]; exact wk_itr
theorem wk_rng2 {lo n : Int} (h : EvL K ta ts m [.int lo, .int n]) (h1 : -(2 ^ 62) ≤ lo ∧ lo < 2 ^ 62 ∧ -(2 ^ 62) ≤ n ∧ n < 2 ^ 62) : WkD K (iRng2 ta) ts m (fun _ => True) (rngD lo n) := fun σ H M S R k =>
  h σ H M S _ fun vs H1 d' m' ⟨e1, e2⟩ M1 x1 r1 => by
    subst e1; subst e2
    cases r1 with
    | cons r rn =>
      cases rn with
      | cons r2 rn =>
        cases rn
        rw [r.int_of, r2.int_of]
        exact ⟨lo, n, rfl, h1, k _ H1 M1 x1 wk_itr⟩
/-- zip of two tuples, of two lists -/
theorem yld_pair {m' : Mem} {H2 : Hp} (M2 : MemOk K H2 m') {x y : V} {d e : D} {T : Addr} (hT : H2 T = none) (r1 : Den K (vis m' H2) x d) (r2 : Den K (vis m' H2) y e) :
    MemOk K (upd H2 T (.tup [x, y])) m' ∧ Ex (vis m' H2) (vis m' (upd H2 T (.tup [x, y]))) ∧ Den K (vis m' (upd H2 T (.tup [x, y]))) (.ref T) (.tup [d, e]) :=
  ⟨M2.new hT, ex_new hT, .tup (SqT.of (vis_new M2 hT)) (.cons (r1.mono (ex_new hT)) (.cons (r2.mono (ex_new hT)) .nil))⟩
def zipD (ds es : List D) : List D := List.zipWith (fun d e => .tup [d, e]) ds es
theorem zipD_get {i : Nat} {d : D} (h : (zipD ds es)[i]? = some d) : ∃ a b, ds[i]? = some a ∧ es[i]? = some b ∧ d = .tup [a, b] := by
  unfold zipD at h
  rw [List.getElem?_zipWith] at h
  cases e1 : ds[i]? with
  | none => rw [e1] at h; simp at h
  | some a =>
    cases e2 : es[i]? with
    | none => rw [e1, e2] at h; simp at h
    | some b => rw [e1, e2] at h; simp at h; exact ⟨a, b, rfl, rfl, h.symm⟩
theorem zipD_len : (zipD ds es).length = min ds.length es.length := by unfold zipD; simp
theorem wk_zipT (h : EvL K ta ts m [.tup ds, .tup es]) : WkD K (RZ.iZipA K ta) ts m (fun _ => True) (zipD ds es) := fun σ H M S R k =>
  h σ H M S _ fun vs H1 d' m' ⟨e1, e2⟩ M1 x1 r1 => by
    subst e1; subst e2
    cases r1 with
    | cons r rn =>
      cases rn with
      | cons r2 rn =>
        cases rn
        obtain ⟨a, xs, rfl, hs, hd⟩ := r.tup_of
        obtain ⟨b, ys, rfl, hs2, hd2⟩ := r2.tup_of
        refine ⟨a, b, xs, ys, rfl, .inr ⟨ex_t vis_ex hs, ex_t vis_ex hs2, k _ H1 M1 x1 fun m' H2 _ M2 x2 => ?_⟩⟩
        have k1 : SqT K H2 a xs := ex_t (x2.trans vis_ex) hs
        have k2 : SqT K H2 b ys := ex_t (x2.trans vis_ex) hs2
        refine ⟨fun i hi => ⟨xs, ys, k1, k2, by rw [zipD_len] at hi; rw [hd.length, hd2.length]; omega⟩, fun i d hi => ?_⟩
        obtain ⟨p, q, hp, hq, rfl⟩ := zipD_get hi
        obtain ⟨x, h1, h2⟩ := hd.get hp
        obtain ⟨y, h3, h4⟩ := hd2.get hq
        refine ⟨⟨xs, ys, x, y, k1, k2, h1, h3⟩, fun v H3 ⟨T, x', y', ev, hT, eH, g1, g2⟩ => ?_⟩
        have z1 := g1 xs k1; rw [h1] at z1; cases z1
        have z2 := g2 ys k2; rw [h3] at z2; cases z2
        subst ev; subst eH
        exact yld_pair M2 hT (h2.mono x2) (h4.mono x2)
end

/-! ### for -/
section
variable {K : PySem.W.Frag} {E : XK} {ts : TSt} {m : Mem} {wi : TI} {g : TG} {tb : TS} {ds : List D} {P : Oc → Prop} {Pm : Mem → Prop}
/-- over data: I is what holds by the turn -/
theorem s_for (hw : WkD K wi ts m Pm ds) (I : Nat → TSt → Mem → Prop) (h0 : I 0 ts m) (hp : ∀ i ts m, I i ts m → Pm m)
    (hs : ∀ i d ts1 m1, ds[i]? = some d → I i ts1 m1 → ∃ ws ts2, GtD K g ws d ts1 m1 ts2 ∧ ExS K E tb ts2 m1 fun o => match o with
      | .nx ts3 m3 => I (i + 1) ts3 m3
      | .ct ts3 m3 => I (i + 1) ts3 m3
      | .bk ts3 m3 => P (.nx ts3 m3)
      | .rt d m3 => P (.rt d m3)
      | .ra C fs m3 => P (.ra C fs m3))
    (hd : ∀ ts1 m1, I ds.length ts1 m1 → P (.nx ts1 m1)) : ExS K E (tFor wi g tb) ts m P := fun σ H De M S k => by
  refine hw σ H M S _ fun J H1 M1 x1 hJ => ?_
  refine ⟨fun i n σ' H' => n = ds.length - i ∧ i ≤ ds.length ∧ ∃ ts' m', I i ts' m' ∧ MemOk K H' m' ∧ Ex (vis m H1) (vis m' H') ∧ StOk K (vis m' H') σ' ts', ⟨_, rfl, Nat.zero_le _, ts, m, h0, M1, Ex.refl _, S.mono x1⟩, ?_⟩
  rintro i n σ' H' ⟨rfl, hi, ts', m', hI, M', x', S'⟩
  obtain ⟨js, jg⟩ := hJ m' H' (hp i _ _ hI) M' x'
  by_cases c : i = ds.length
  · left
    subst c
    exact ⟨js _ (Nat.le_refl _), k _ (hd _ _ hI) σ' H' M' (x1.trans x') S'⟩
  · right
    have hl : i < ds.length := by omega
    have hget : ds[i]? = some ds[i] := List.getElem?_eq_getElem hl
    obtain ⟨hgo, hy⟩ := jg i _ hget
    obtain ⟨ws, ts2, hg, hb⟩ := hs i _ ts' m' hget hI
    refine ⟨hgo, fun σ2 H2 => ∃ ts3 m3, I (i + 1) ts3 m3 ∧ MemOk K H2 m3 ∧ Ex (vis m H1) (vis m3 H2) ∧ StOk K (vis m3 H2) σ2 ts3, ?_, ?_⟩
    · rintro σ2 H2 ⟨ts3, m3, h3, M3, x3, S3⟩
      exact ⟨ds.length - (i + 1), by omega, rfl, by omega, ts3, m3, h3, M3, x3, S3⟩
    · intro x H3 hx
      obtain ⟨M3, x3, r3⟩ := hy x H3 hx
      refine hg x σ' H3 M3 r3 (S'.mono x3) _ fun σ4 _ S4 => ?_
      refine hb σ4 H3 _ M3 S4 fun o p => ?_
      cases o with
      | nx ts5 m5 => exact fun σ5 H5 M5 x5 S5 => ⟨ts5, m5, p, M5, x'.trans (x3.trans x5), S5⟩
      | ct ts5 m5 => exact fun σ5 H5 M5 x5 S5 => ⟨ts5, m5, p, M5, x'.trans (x3.trans x5), S5⟩
      | bk ts5 m5 => exact fun σ5 H5 M5 x5 S5 => k _ p σ5 H5 M5 (x1.trans (x'.trans (x3.trans x5))) S5
      | rt d m5 => exact fun v H5 M5 x5 S5 => k _ p v H5 M5 (x1.trans (x'.trans (x3.trans x5))) S5
      | ra C fs m5 => exact fun cls dd H5 M5 x5 S5 => k _ p cls dd H5 M5 (x1.trans (x'.trans (x3.trans x5))) (S5.back (x1.trans (x'.trans x3)))
/-- while: the state by a falling number -/
theorem s_while {tt : TT} (I : Nat → TSt → Mem → Prop) (n : Nat) (h0 : I n ts m)
    (hs : ∀ n ts1 m1, I n ts1 m1 → ∃ b, EvT K tt ts1 m1 b ∧ (b = true → ExS K E tb ts1 m1 fun o => match o with
      | .nx ts3 m3 => ∃ n', n' < n ∧ I n' ts3 m3
      | .ct ts3 m3 => ∃ n', n' < n ∧ I n' ts3 m3
      | .bk ts3 m3 => P (.nx ts3 m3)
      | .rt d m3 => P (.rt d m3)
      | .ra C fs m3 => P (.ra C fs m3)) ∧ (b = false → P (.nx ts1 m1))) : ExS K E (tWhile tt tb) ts m P := fun σ H De M S k => by
  refine ⟨fun n σ' H' => ∃ ts' m', I n ts' m' ∧ MemOk K H' m' ∧ Ex (vis m H) (vis m' H') ∧ StOk K (vis m' H') σ' ts', ⟨n, ts, m, h0, M, Ex.refl _, S⟩, ?_⟩
  rintro n σ' H' ⟨ts', m', hI, M', x', S'⟩
  obtain ⟨b, hb, h1, h2⟩ := hs n ts' m' hI
  refine hb σ' H' M' S' _ fun b' H1 m1 ⟨e1, e2⟩ M1 x1 => ?_
  subst e1; subst e2
  cases b' with
  | false =>
    rw [if_neg Bool.false_ne_true]
    exact k _ (h2 rfl) σ' H1 M1 (x'.trans x1) (S'.mono x1)
  | true =>
    rw [if_pos rfl]
    refine ⟨fun σ2 H2 => ∃ n', n' < n ∧ ∃ ts3 m3, I n' ts3 m3 ∧ MemOk K H2 m3 ∧ Ex (vis m H) (vis m3 H2) ∧ StOk K (vis m3 H2) σ2 ts3, ?_, ?_⟩
    · rintro σ2 H2 ⟨n', hn, r⟩
      exact ⟨n', hn, r⟩
    · refine h1 rfl σ' H1 _ M1 (S'.mono x1) fun o p => ?_
      cases o with
      | nx ts5 m5 => obtain ⟨n', hn, p⟩ := p; exact fun σ5 H5 M5 x5 S5 => ⟨n', hn, ts5, m5, p, M5, x'.trans (x1.trans x5), S5⟩
      | ct ts5 m5 => obtain ⟨n', hn, p⟩ := p; exact fun σ5 H5 M5 x5 S5 => ⟨n', hn, ts5, m5, p, M5, x'.trans (x1.trans x5), S5⟩
      | bk ts5 m5 => exact fun σ5 H5 M5 x5 S5 => k _ p σ5 H5 M5 (x'.trans (x1.trans x5)) S5
      | rt d m5 => exact fun v H5 M5 x5 S5 => k _ p v H5 M5 (x'.trans (x1.trans x5)) S5
      | ra C fs m5 => exact fun cls dd H5 M5 x5 S5 => k _ p cls dd H5 M5 (x'.trans (x1.trans x5)) (S5.back (x'.trans x1))
end

/-! ### comprehensions -/
section
variable {K : PySem.W.Frag} {ts : TSt} {m : Mem} {wi : TI} {g : TG} {tt : TT} {te : TE} {ws : List Nat} {ds : List D} {P : D → Mem → Prop} {Pm : Mem → Prop}
/-- I: what is made behind i items, and the memory. The new list stands ahead in the memory meanwhile, and behind it too -/
theorem ev_lcM (hw : WkD K wi ts m Pm ds) (I : Nat → List D → Mem → Prop) (h0 : I 0 [] m) (hz : ds.length ≤ 100000) (hp : ∀ i acc m l d, I i acc m → Pm ((l, d) :: m)) (hlen : ∀ i acc m, I i acc m → acc.length ≤ i)
    (hs : ∀ i d acc m1 l, ds[i]? = some d → I i acc m1 → l ∉ m1.map (·.1) → ∃ ts2, GtD K g ws d (wipeT ts ws) ((l, .lst acc) :: m1) ts2 ∧
      EvB K tt ts2 ((l, .lst acc) :: m1) fun b m2 => if b = true then EvP K te ts2 m2 fun d' m3 => ∃ m4, m3 = (l, .lst acc) :: m4 ∧ I (i + 1) (acc ++ [d']) m4
        else ∃ m4, m2 = (l, .lst acc) :: m4 ∧ I (i + 1) acc m4)
    (hd : ∀ acc m1 l, I ds.length acc m1 → l ∉ m1.map (·.1) → P (.ref l) ((l, .lst acc) :: m1)) : EvP K (tLc wi g tt te ws) ts m P := fun σ H M S Q q => by
  refine hw σ H M S _ fun J H1 M1 x1 hJ => fun Dl hDl => ?_
  have x1' : Ex (vis m H) (vis m H1) := x1
  refine ⟨fun i n H' => n = ds.length - i ∧ i ≤ ds.length ∧ ∃ acc m', I i acc m' ∧ MemOk K H' ((Dl, .lst acc) :: m') ∧ Ex (vis m H1) (vis ((Dl, .lst acc) :: m') H'), ⟨_, rfl, Nat.zero_le _, [], m, h0, M1.add hDl ⟨[], upd_same, .nil⟩, ex_add hDl⟩, ?_⟩
  rintro i n H' ⟨rfl, hi, acc, m', hI, M', x'⟩
  obtain ⟨js, jg⟩ := hJ _ H' (hp _ _ _ Dl _ hI) M' x'
  have nDl : Dl ∉ m'.map (·.1) := by
    have nd := M'.nd
    simp only [List.map_cons, List.nodup_cons] at nd
    exact nd.1
  by_cases c : i = ds.length
  · left
    subst c
    exact ⟨js _ (Nat.le_refl _), q _ H' _ _ (hd _ _ _ hI nDl) M' (x1'.trans x') (.ref Dl)⟩
  · right
    have hl : i < ds.length := by omega
    have hget : ds[i]? = some ds[i] := List.getElem?_eq_getElem hl
    obtain ⟨hgo, hy⟩ := jg i _ hget
    obtain ⟨ts2, hg, hb⟩ := hs i _ acc m' Dl hget hI nDl
    refine ⟨hgo, fun H2 => ∃ acc' m3, I (i + 1) acc' m3 ∧ MemOk K H2 ((Dl, .lst acc') :: m3) ∧ Ex (vis m H1) (vis ((Dl, .lst acc') :: m3) H2), ?_, ?_⟩
    · rintro H2 ⟨acc', m3, h3, M3, x3⟩
      exact ⟨ds.length - (i + 1), by omega, rfl, by omega, acc', m3, h3, M3, x3⟩
    · intro x H3 hx
      obtain ⟨M3, x3, r3⟩ := hy x H3 hx
      have Sw : StOk K (vis ((Dl, .lst acc) :: m') H3) (L2.wipe σ ws) (wipeT ts ws) := (S.mono (x1'.trans (x'.trans x3))).wipe ws
      refine hg x _ H3 M3 r3 Sw _ fun σ4 e4 S4 => ⟨by rw [e4, wipe_idem], ?_⟩
      refine hb σ4 H3 M3 S4 _ fun b H5 m5 p M5 x5 => ?_
      cases b with
      | false =>
        rw [if_neg Bool.false_ne_true] at p ⊢
        obtain ⟨m4, rfl, h4⟩ := p
        exact ⟨acc, m4, h4, M5, x'.trans (x3.trans x5)⟩
      | true =>
        rw [if_pos rfl] at p ⊢
        refine p σ4 H5 M5 (S4.mono x5) _ fun v H6 d6 m6 ⟨m4, em, h4⟩ M6 x6 r6 => ?_
        subst em
        obtain ⟨vs, hv, hr⟩ := M6.cell (k := 0) (l := Dl) (d := .lst acc) rfl
        have lacc := hlen _ _ _ hI
        refine ⟨vs, hv, sz_lt (by rw [hr.length]; omega), acc ++ [d6], m4, h4, ?_, ?_⟩
        · exact M6.write (k := 0) (d := .lst acc) (d' := .lst (acc ++ [d6])) rfl ⟨_, upd_same, hr.append (.cons r6 .nil)⟩
        · exact x'.trans (x3.trans (x5.trans (x6.trans (ex_write (k := 0) (d := .lst acc) (d' := .lst (acc ++ [d6])) rfl))))
/-- .. the new list does not change any more -/
theorem ev_lcI (hw : WkD K wi ts m Pm ds) (I : Nat → List D → Mem → Prop) (h0 : I 0 [] m) (hz : ds.length ≤ 100000) (hp : ∀ i acc m l d, I i acc m → Pm ((l, d) :: m)) (hlen : ∀ i acc m, I i acc m → acc.length ≤ i)
    (hs : ∀ i d acc m1 l, ds[i]? = some d → I i acc m1 → l ∉ m1.map (·.1) → ∃ ts2, GtD K g ws d (wipeT ts ws) ((l, .lst acc) :: m1) ts2 ∧
      EvB K tt ts2 ((l, .lst acc) :: m1) fun b m2 => if b = true then EvP K te ts2 m2 fun d' m3 => ∃ m4, m3 = (l, .lst acc) :: m4 ∧ I (i + 1) (acc ++ [d']) m4
        else ∃ m4, m2 = (l, .lst acc) :: m4 ∧ I (i + 1) acc m4)
    (hd : ∀ acc m1, I ds.length acc m1 → P (.lst acc) m1) : EvP K (tLc wi g tt te ws) ts m P := fun σ H M S Q q =>
  ev_lcM (P := fun d m' => ∃ l acc m1, d = .ref l ∧ m' = (l, .lst acc) :: m1 ∧ I ds.length acc m1) hw I h0 hz hp hlen hs (fun acc m1 l h _ => ⟨l, acc, m1, rfl, rfl, h⟩) σ H M S Q fun v H' d m' ⟨l, acc, m1, e1, e2, h⟩ M' x' r' => by
    subst e1; subst e2
    rw [r'.ref_of]
    exact q _ H' _ m1 (hd acc m1 h) M'.drop (x'.trans vis_cons_ex) M'.dropLst
/-- each item's test and value told by functions -/
def lcD (ds : List D) (f : D → Bool) (v : D → D) : List D := (ds.filter f).map v
theorem take_snoc {α : Type} {l : List α} {i : Nat} {x : α} (h : l[i]? = some x) : l.take (i + 1) = l.take i ++ [x] := by
  rw [List.take_add_one, h]; rfl
theorem ev_lc (hw : WkD K wi ts m (fun _ => True) ds) (f : D → Bool) (v : D → D) (hz : ds.length ≤ 100000)
    (hs : ∀ d l acc, d ∈ ds → ∃ ts2, GtD K g ws d (wipeT ts ws) ((l, .lst acc) :: m) ts2 ∧ EvT K tt ts2 ((l, .lst acc) :: m) (f d) ∧ (f d = true → EvD K te ts2 ((l, .lst acc) :: m) (v d))) : EvD K (tLc wi g tt te ws) ts m (.lst (lcD ds f v)) :=
  ev_lcI hw (fun i acc m1 => acc = lcD (ds.take i) f v ∧ m1 = m) ⟨by simp [lcD], rfl⟩ hz (fun _ _ _ _ _ _ => trivial) (fun i acc m1 ⟨e, _⟩ => by
      subst e; unfold lcD
      rw [List.length_map]
      exact Nat.le_trans (List.length_filter_le _ _) (by rw [List.length_take]; omega))
    (fun i d acc m1 l hi ⟨e1, e2⟩ _ => by
      subst e1; subst e2
      obtain ⟨ts2, hg, ht, hv⟩ := hs d l (lcD (ds.take i) f v) (List.mem_of_getElem? hi)
      have step : lcD (ds.take (i + 1)) f v = lcD (ds.take i) f v ++ (if f d = true then [v d] else []) := by
        unfold lcD
        rw [take_snoc hi, List.filter_append, List.map_append]
        congr 1
        by_cases c : f d = true
        · rw [if_pos c, List.filter_cons_of_pos c]; rfl
        · rw [if_neg c, List.filter_cons_of_neg c]; rfl
      refine ⟨ts2, hg, ht.p ?_⟩
      by_cases c : f d = true
      · rw [if_pos c]
        refine (hv c).p ⟨m1, rfl, ?_, rfl⟩
        rw [step, if_pos c]
      · rw [if_neg c]
        refine ⟨m1, rfl, ?_, rfl⟩
        rw [step, if_neg c, List.append_nil])
    (fun acc m1 ⟨e1, e2⟩ => by subst e1; exact ⟨by rw [List.take_length], e2⟩)
end
end RA
set_option Elab.async false
set_option linter.all false
set_option maxRecDepth 100000
set_option maxHeartbeats 4000000
namespace RA
open PySem PySem.Spec PyProof.Rows L2 Evl

/-! ### promises -/
/-- a def by data: from its arguments and the memory, whatever P it may end in -/
abbrev Rl := List D → Mem → (Oc → Prop) → Prop
def FinK (K : PySem.W.Frag) (G : Hp) (Q : VK) (E : XK) : Oc → Prop
  | .rt d m => ∀ v H, MemOk K H m → Ex G (vis m H) → Den K (vis m H) v d → Q v H
  | .ra C fs m => ∀ cls dd H, MemOk K H m → Ex G (vis m H) → ErrOk K G H cls dd C fs m → E cls dd H
  | _ => False
def SpD (K : PySem.W.Frag) (R : Rl) : Sp := fun vs H Q E => ∃ m ds P, MemOk K H m ∧ Dens K (vis m H) vs ds ∧ R ds m P ∧ ∀ o, P o → FinK K (vis m H) Q E o
/-- the end of a body as the end of the call -/
def Fin (P : Oc → Prop) : Oc → Prop
  | .nx _ m => P (.rt .non m)
  | .rt d m => P (.rt d m)
  | .ra C fs m => P (.ra C fs m)
  | _ => False
def startT (N : List Str) (ds : List D) : TSt := ds.map some ++ List.replicate (N.length - ds.length) none
section
variable {K : PySem.W.Frag} {R : Rl}
theorem SpD.len {n : Nat} (h : ∀ ds m P, R ds m P → ds.length = n) : ∀ vs H Q E, SpD K R vs H Q E → vs.length = n := fun vs H Q E ⟨m, ds, P, _, r, hR, _⟩ => by
  rw [r.length]; exact h ds m P hR
theorem start_ok {G : Hp} {N : List Str} : ∀ {vs : List V} {ds : List D}, Dens K G vs ds → StOk K G (L2.start N vs) (startT N ds) := fun {vs ds} r => by
  unfold L2.start startT
  rw [r.length]
  have h : ∀ n : Nat, Paired (Slot K G) (List.replicate n none) (List.replicate n none) := by
    intro n
    induction n with
    | zero => exact .nil
    | succ n ih => exact .cons trivial ih
  have h2 : ∀ {vs : List V} {ds : List D} {l : L2.St} {k : TSt}, Dens K G vs ds → Paired (Slot K G) l k → Paired (Slot K G) (vs.map some ++ l) (ds.map some ++ k) := by
    intro vs
    induction vs with
    | nil => intro ds l k r p; cases r; exact p
    | cons v vs ih => intro ds l k r p; cases r with
      | cons r1 rr => exact .cons r1 (ih rr p)
  exact h2 r (h _)
theorem pure_of {N : List Str} {t : XK → TS} (h : ∀ ds m P E, R ds m P → ExS K E (t E) (startT N ds) m (Fin P)) {vs : List V} {H : Hp} {Q : VK} {E : XK} (s : SpD K R vs H Q E) :
    t E { nx := fun _ H' => Q .non H', rt := Q } (L2.start N vs) H := by
  obtain ⟨m, ds, P, M, r, hR, k⟩ := s
  refine h ds m P E hR _ H _ M (start_ok r) fun o p => ?_
  cases o with
  | nx ts m1 => exact fun σ H1 M1 x1 S1 => k _ p .non H1 M1 x1 .non
  | rt d m1 => exact fun v H1 M1 x1 S1 => k _ p v H1 M1 x1 S1
  | ra C fs m1 => exact fun cls dd H1 M1 x1 S1 => k _ p cls dd H1 M1 x1 S1
  | bk ts m1 => exact p.elim
  | ct ts m1 => exact p.elim
end

/-! ### calls -/
/-- a call's ends: P of a value, PX of an error -/
def Ends2 (P : D → Mem → Prop) (PX : Addr → List (Str × D) → Mem → Prop) : Oc → Prop
  | .rt d m => P d m
  | .ra C fs m => PX C fs m
  | _ => False
abbrev noX : Addr → List (Str × D) → Mem → Prop := fun _ _ _ => False
/-- an expression that may raise -/
def EvX (K : PySem.W.Frag) (E : XK) (te : TE) (ts : TSt) (m : Mem) (P : D → Mem → Prop) (PX : Addr → List (Str × D) → Mem → Prop) : Prop :=
  ∀ σ H, MemOk K H m → StOk K (vis m H) σ ts → ∀ Q : VK, (∀ v H' d m', P d m' → MemOk K H' m' → Ex (vis m H) (vis m' H') → Den K (vis m' H') v d → Q v H') →
    (∀ cls dd H' C fs m', PX C fs m' → MemOk K H' m' → Ex (vis m H) (vis m' H') → ErrOk K (vis m H) H' cls dd C fs m' → E cls dd H') → te σ H Q
section
variable {K : PySem.W.Frag} {E : XK} {R : Rl} {tl : TA} {te ta : TE} {ts : TSt} {m : Mem} {P : D → Mem → Prop} {PX : Addr → List (Str × D) → Mem → Prop} {d : D} {ds : List D} {PO : Oc → Prop}
theorem ev_callX (ha : EvA K tl ts m fun ds m1 => R ds m1 (Ends2 P PX)) : EvX K E (tCall (SpD K R) [] E tl) ts m P PX := fun σ H M S Q q qx =>
  ha σ H M S _ fun vs H1 ds m1 hR M1 x1 r1 => by
    rw [List.append_nil]
    refine ⟨m1, ds, _, M1, r1, hR, fun o p => ?_⟩
    cases o with
    | rt d m2 => exact fun v H2 M2 x2 r2 => q v H2 d m2 p M2 (x1.trans x2) r2
    | ra C fs m2 => exact fun cls dd H2 M2 x2 r2 => qx cls dd H2 C fs m2 p M2 (x1.trans x2) (r2.back x1)
    | nx ts m1 => exact p.elim
    | bk ts m1 => exact p.elim
    | ct ts m1 => exact p.elim
theorem EvX.p (h : EvX K E te ts m P noX) : EvP K te ts m P := fun σ H M S Q q => h σ H M S Q q fun _ _ _ _ _ _ z => z.elim
theorem EvP.x (h : EvP K te ts m P) : EvX K E te ts m P PX := fun σ H M S Q q _ => h σ H M S Q q
theorem ev_callP (ha : EvA K tl ts m fun ds m1 => R ds m1 (Ends2 P noX)) : EvP K (tCall (SpD K R) [] E tl) ts m P := (ev_callX ha).p
theorem ev_call (ha : EvL K tl ts m ds) (hR : R ds m (Ends2 (fun d' m' => d' = d ∧ m' = m) noX)) : EvD K (tCall (SpD K R) [] E tl) ts m d := ev_callP (ha.p hR)
theorem s_dropX (h : EvX K E te ts m (fun _ m' => PO (.nx ts m')) fun C fs m' => PO (.ra C fs m')) : ExS K E (tDrop te) ts m PO := fun σ H De M S k =>
  h σ H M S _ (fun v H1 d m1 p M1 x1 r1 => k _ p _ H1 M1 x1 (S.mono x1)) fun cls dd H1 C fs m1 p M1 x1 r1 => k _ p cls dd H1 M1 x1 r1
theorem s_asgX {i : Nat} (h : EvX K E te ts m (fun d m' => PO (.nx (ts.set i (some d)) m')) fun C fs m' => PO (.ra C fs m')) : ExS K E (tAsg te (gName i)) ts m PO := fun σ H De M S k =>
  h σ H M S _ (fun v H1 d m1 p M1 x1 r1 => k _ p _ H1 M1 x1 ((S.mono x1).set r1 i)) fun cls dd H1 C fs m1 p M1 x1 r1 => k _ p cls dd H1 M1 x1 r1
theorem s_retX (h : EvX K E te ts m (fun d m' => PO (.rt d m')) fun C fs m' => PO (.ra C fs m')) : ExS K E (tRet te) ts m PO := fun σ H De M S k =>
  h σ H M S _ (fun v H1 d m1 p M1 x1 r1 => k _ p _ H1 M1 x1 r1) fun cls dd H1 C fs m1 p M1 x1 r1 => k _ p cls dd H1 M1 x1 r1
end

/-! ### instances -/
section
variable {K : PySem.W.Frag} {E : XK} {R : Rl} {tl : TA} {te ta tv : TE} {ts : TSt} {m : Mem} {P : D → Mem → Prop} {PX : Addr → List (Str × D) → Mem → Prop} {d : D} {ds : List D} {PO : Oc → Prop} {C : Addr} {fs : List (Str × D)} {f : Str}
/-- C(..): x the new instance, in the memory while its __init__ runs -/
theorem ev_makeX (ha : EvA K tl ts m fun ds m1 => ∀ x, x ∉ m1.map (·.1) → R (.ref x :: ds) ((x, .ins C []) :: m1) (Ends2 (fun d m2 => d = .non ∧ P (.ref x) m2) fun C' fs m2 => ∃ e m3, m2 = (x, e) :: m3 ∧ PX C' fs m3)) : EvX K E (tMake C (SpD K R) [] E tl) ts m P PX := fun σ H M S Q q qx =>
  ha σ H M S _ fun vs H1 ds m1 hR M1 x1 r1 => fun x dx hx hdx hne => by
    rw [List.append_nil]
    have Md : MemOk K (upd H1 dx (.own x)) m1 := M1.new hdx
    have hx' : upd H1 dx (.own x) x = none := by rw [upd_ne (Ne.symm hne)]; exact hx
    have M2 : MemOk K (upd (upd H1 dx (.own x)) x (.ins C dx [])) ((x, .ins C []) :: m1) := Md.add hx' ⟨dx, [], upd_same, .nil⟩
    have x2 : Ex (vis m1 H1) (vis ((x, .ins C []) :: m1) (upd (upd H1 dx (.own x)) x (.ins C dx []))) := (ex_new hdx).trans (ex_add hx')
    refine ⟨_, _, _, M2, .cons (.ref x) (r1.mono x2), hR x (M1.fresh hx), fun o p => ?_⟩
    cases o with
    | rt d m2 =>
      intro v H3 M3 x3 r3
      obtain ⟨e, p⟩ := p
      subst e
      exact ⟨r3.non_of, q _ H3 _ m2 p M3 (x1.trans (x2.trans x3)) (.ref x)⟩
    | ra C fs m2 =>
      intro cls dd H2 M2 x3 r2
      obtain ⟨e, m3, em, p⟩ := p
      subst em
      refine qx cls dd H2 C fs m3 p M2.drop (x1.trans (x2.trans (x3.trans vis_cons_ex))) ?_
      obtain ⟨h1, h2⟩ := r2.back (x1.trans x2)
      exact ⟨h1, h2.imp id fun ⟨d, ed, g, MM⟩ => ⟨d, ed, g, MM.drop2⟩⟩
    | nx ts m1 => exact p.elim
    | bk ts m1 => exact p.elim
    | ct ts m1 => exact p.elim
/-- .. an instance that will not change -/
theorem ev_makeI (ha : EvA K tl ts m fun ds m1 => ∀ x, x ∉ m1.map (·.1) → R (.ref x :: ds) ((x, .ins C []) :: m1) (Ends2 (fun d m2 => d = .non ∧ ∃ x' fs m3, D.ref x = .ref x' ∧ m2 = (x', .ins C fs) :: m3 ∧ P (.ins C fs) m3) fun C' fs m2 => ∃ e m3, m2 = (x, e) :: m3 ∧ PX C' fs m3)) : EvX K E (tMake C (SpD K R) [] E tl) ts m P PX := fun σ H M S Q q qx =>
  ev_makeX (P := fun d m2 => ∃ x fs m3, d = .ref x ∧ m2 = (x, .ins C fs) :: m3 ∧ P (.ins C fs) m3) (PX := PX) (E := E) ha σ H M S Q (fun v H' d m' ⟨x, fs, m3, e1, e2, p⟩ M' x' r' => by
    subst e1; subst e2
    rw [r'.ref_of]
    exact q _ H' _ m3 p M'.drop (x'.trans vis_cons_ex) M'.dropIns) qx
theorem ev_make (ha : EvA K tl ts m fun ds m1 => ∀ x, x ∉ m1.map (·.1) → R (.ref x :: ds) ((x, .ins C []) :: m1) (Ends2 (fun d m2 => d = .non ∧ ∃ x' fs m3, D.ref x = .ref x' ∧ m2 = (x', .ins C fs) :: m3 ∧ P (.ins C fs) m3) fun C' fs m2 => ∃ e m3, m2 = (x, e) :: m3 ∧ noX C' fs m3)) : EvP K (tMake C (SpD K R) [] E tl) ts m P := (ev_makeI ha).p
/-- e.f -/
theorem ev_fld (h : EvD K ta ts m (.ins C fs)) (c : Cls K C) (n : NoAttr K C f) (l : fs.lookup f = some d) : EvD K (tFld K ta f) ts m d := fun σ H M S Q q =>
  h σ H M S _ fun v H1 d' m' ⟨e1, e2⟩ M1 x1 r1 => by
    subst e1; subst e2
    obtain ⟨a, dx, ws, rfl, hs, hf⟩ := r1.ins_of
    obtain ⟨v, h1, h2⟩ := hf.lookup l
    exact ⟨a, C, dx, ws, v, rfl, vis_ex _ _ hs, c, n, h1, q v H1 _ _ ⟨rfl, rfl⟩ M1 x1 h2⟩
theorem ev_fldM {k : Nat} {x : Addr} (h : EvD K ta ts m (.ref x)) (hk : m[k]? = some (x, .ins C fs)) (c : Cls K C) (n : NoAttr K C f) (l : fs.lookup f = some d) : EvD K (tFld K ta f) ts m d := fun σ H M S Q q =>
  h σ H M S _ fun v H1 d' m' ⟨e1, e2⟩ M1 x1 r1 => by
    subst e1; subst e2
    obtain ⟨dx, ws, hs, hf⟩ := M1.cell hk
    obtain ⟨v, h1, h2⟩ := hf.lookup l
    exact ⟨x, C, dx, ws, v, r1.ref_of, hs, c, n, h1, q v H1 _ _ ⟨rfl, rfl⟩ M1 x1 h2⟩
/-- e.f = v -/
theorem s_fld {k : Nat} {x : Addr} (hv : EvD K tv ts m d) (ha : EvD K ta ts m (.ref x)) (hk : m[k]? = some (x, .ins C fs)) (c : Cls K C) (n : NoAttr K C f) (hl : fs.length < 1000) (p : PO (.nx ts (m.set k (x, .ins C (putD f d fs))))) : ExS K E (sFld K ta tv f) ts m PO := fun σ H De M S kk =>
  hv σ H M S _ fun v H1 d' m' ⟨e1, e2⟩ M1 x1 r1 => by
    subst e1; subst e2
    refine ha σ H1 M1 (S.mono x1) _ fun u H2 d' m' ⟨e1, e2⟩ M2 x2 r2 => ?_
    subst e1; subst e2
    obtain ⟨dx, ws, hs, hf⟩ := M2.cell hk
    refine ⟨x, C, dx, ws, r2.ref_of, hs, c, n, by rw [hf.length]; exact hl, ?_⟩
    have xw : Ex (vis m' H2) (vis (m'.set k (x, .ins C (putD f d' fs))) (upd H2 x (.ins C dx (putF f v ws)))) := ex_write hk
    exact kk _ p σ _ (M2.write hk ⟨dx, _, upd_same, hf.put (r1.mono x2)⟩) (x1.trans (x2.trans xw)) (S.mono (x1.trans (x2.trans xw)))
/-- e.f, a property -/
theorem ev_prop (h : EvD K ta ts m (.ins C fs)) (hR : R [.ins C fs] m (Ends2 (fun d' m' => d' = d ∧ m' = m) noX)) : EvD K (tProp C (SpD K R) [] E ta) ts m d := fun σ H M S Q q =>
  h σ H M S _ fun v H1 d' m' ⟨e1, e2⟩ M1 x1 r1 => by
    subst e1; subst e2
    obtain ⟨a, dx, ws, rfl, hs, hf⟩ := r1.ins_of
    refine ⟨a, dx, ws, rfl, vis_ex _ _ hs, m', _, _, M1, .cons r1 .nil, hR, fun o p => ?_⟩
    cases o with
    | rt d m2 =>
      intro v H3 M3 x3 r3
      obtain ⟨e1, e2⟩ := p
      subst e1; subst e2
      exact q _ H3 _ _ ⟨rfl, rfl⟩ M3 (x1.trans x3) r3
    | ra C fs m2 => exact p.elim
    | nx ts m1 => exact p.elim
    | bk ts m1 => exact p.elim
    | ct ts m1 => exact p.elim
theorem ev_propM {k : Nat} {x : Addr} (h : EvD K ta ts m (.ref x)) (hk : m[k]? = some (x, .ins C fs)) (hR : R [.ref x] m (Ends2 (fun d' m' => d' = d ∧ m' = m) noX)) : EvD K (tProp C (SpD K R) [] E ta) ts m d := fun σ H M S Q q =>
  h σ H M S _ fun v H1 d' m' ⟨e1, e2⟩ M1 x1 r1 => by
    subst e1; subst e2
    obtain ⟨dx, ws, hs, hf⟩ := M1.cell hk
    rw [r1.ref_of]
    refine ⟨x, dx, ws, rfl, hs, m', _, _, M1, .cons (.ref x) .nil, hR, fun o p => ?_⟩
    cases o with
    | rt d m2 =>
      intro v H3 M3 x3 r3
      obtain ⟨e1, e2⟩ := p
      subst e1; subst e2
      exact q _ H3 _ _ ⟨rfl, rfl⟩ M3 (x1.trans x3) r3
    | ra C fs m2 => exact p.elim
    | nx ts m1 => exact p.elim
    | bk ts m1 => exact p.elim
    | ct ts m1 => exact p.elim
/-- o.m(..), o in the memory -/
theorem ev_methX {mn : Str} {k : Nat} {x : Addr} (h : EvD K ta ts m (.ref x)) (hk : m[k]? = some (x, .ins C fs)) (hn : fs.lookup mn = none) (ha : EvA K tl ts m fun ds m1 => R (.ref x :: ds) m1 (Ends2 P PX)) : EvX K E (tMeth C mn (SpD K R) [] E ta tl) ts m P PX := fun σ H M S Q q qx =>
  h σ H M S _ fun v H1 d' m' ⟨e1, e2⟩ M1 x1 r1 => by
    subst e1; subst e2
    obtain ⟨dx, ws, hs, hf⟩ := M1.cell hk
    rw [r1.ref_of]
    refine ⟨x, dx, ws, rfl, hs, hf.lookup_none hn, ?_⟩
    refine ha σ H1 M1 (S.mono x1) _ fun vs H2 ds m2 hR M2 x2 r2 => ?_
    rw [List.append_nil]
    refine ⟨m2, _, _, M2, .cons (.ref x) r2, hR, fun o p => ?_⟩
    cases o with
    | rt d m3 => exact fun v H3 M3 x3 r3 => q v H3 d m3 p M3 (x1.trans (x2.trans x3)) r3
    | ra C fs m3 => exact fun cls dd H3 M3 x3 r3 => qx cls dd H3 C fs m3 p M3 (x1.trans (x2.trans x3)) (r3.back (x1.trans x2))
    | nx ts m1 => exact p.elim
    | bk ts m1 => exact p.elim
    | ct ts m1 => exact p.elim
end

/-! ### what is built in -/
/-- a call of a builtin on data, nothing changed -/
def CbD (K : PySem.W.Frag) (r : List V → Hp → VK → Prop) (ds : List D) (m : Mem) (d : D) : Prop :=
  ∀ vs H, MemOk K H m → Dens K (vis m H) vs ds → ∀ Q : VK, (∀ z H', MemOk K H' m → Ex (vis m H) (vis m H') → Den K (vis m H') z d → Q z H') → r vs H Q
section
variable {K : PySem.W.Frag} {E : XK} {tl : TA} {te ta tv : TE} {ts : TSt} {m : Mem} {P : D → Mem → Prop} {d : D} {ds : List D} {PO : Oc → Prop} {r : List V → Hp → VK → Prop}
theorem ev_cb (ha : EvL K tl ts m ds) (h : CbD K r ds m d) : EvD K (tCB r tl) ts m d := fun σ H M S Q q =>
  ha σ H M S _ fun vs H1 d' m' ⟨e1, e2⟩ M1 x1 r1 => by
    subst e1; subst e2
    exact h vs H1 M1 r1 Q fun z H3 M3 x3 r3 => q z H3 _ _ ⟨rfl, rfl⟩ M3 (x1.trans x3) r3
theorem ev_cbP (ha : EvA K tl ts m fun ds m1 => ∃ d, CbD K r ds m1 d ∧ P d m1) : EvP K (tCB r tl) ts m P := fun σ H M S Q q =>
  ha σ H M S _ fun vs H1 ds' m' ⟨d, h, p⟩ M1 x1 r1 => h vs H1 M1 r1 Q fun z H3 M3 x3 r3 => q z H3 _ _ p M3 (x1.trans x3) r3
theorem Dens.one {H : Hp} {vs : List V} (r : Dens K H vs [d]) : ∃ v, vs = [v] ∧ Den K H v d := by
  cases r with
  | cons r1 rr => cases rr; exact ⟨_, rfl, r1⟩
theorem Dens.two {H : Hp} {vs : List V} {d e : D} (r : Dens K H vs [d, e]) : ∃ v w, vs = [v, w] ∧ Den K H v d ∧ Den K H w e := by
  cases r with
  | cons r1 rr => cases rr with
    | cons r2 rr => cases rr; exact ⟨_, _, rfl, r1, r2⟩
def rAbs : List V → Hp → VK → Prop := fun xs H Q => ∃ i, xs = [.int i] ∧ Q (.int (if i < 0 then -i else i)) H
theorem cb_abs {i : Int} : CbD K rAbs [.int i] m (.int (if i < 0 then -i else i)) := fun vs H M r Q q => by
  obtain ⟨v, rfl, r'⟩ := r.one
  have r := r'
  exact ⟨i, by rw [r.int_of], q _ H M (Ex.refl _) (.int _)⟩
def rInt1 : List V → Hp → VK → Prop := fun xs H Q => (∃ i, xs = [.int i] ∧ Q (.int i) H) ∨ ∃ k, xs = [.bl k] ∧ Q (.int (if k then 1 else 0)) H
theorem cb_int {i : Int} : CbD K rInt1 [.int i] m (.int i) := fun vs H M r Q q => by
  obtain ⟨v, rfl, r'⟩ := r.one
  have r := r'
  exact .inl ⟨i, by rw [r.int_of], q _ H M (Ex.refl _) (.int _)⟩
theorem cb_intB {b : Bool} : CbD K rInt1 [.bl b] m (.int (if b then 1 else 0)) := fun vs H M r Q q => by
  obtain ⟨v, rfl, r'⟩ := r.one
  have r := r'
  exact .inr ⟨b, by rw [r.bl_of], q _ H M (Ex.refl _) (.int _)⟩
/-- len -/
def rLen (K : PySem.W.Frag) : List V → Hp → VK → Prop := fun xs H Q => ∃ x n, xs = [x] ∧ LenV K x H n ∧ Q (.int n) H
theorem cb_lenL : CbD K (rLen K) [.lst ds] m (.int ds.length) := fun vs H M r Q q => by
  obtain ⟨v, rfl, r'⟩ := r.one
  have r := r'
  obtain ⟨a, xs, rfl, hs, hd⟩ := r.lst_of
  exact ⟨_, ds.length, rfl, .inl ⟨xs, ex_l vis_ex hs, hd.length.symm⟩, q _ H M (Ex.refl _) (.int _)⟩
theorem cb_lenT : CbD K (rLen K) [.tup ds] m (.int ds.length) := fun vs H M r Q q => by
  obtain ⟨v, rfl, r'⟩ := r.one
  have r := r'
  obtain ⟨a, xs, rfl, hs, hd⟩ := r.tup_of
  exact ⟨_, ds.length, rfl, .inr ⟨xs, ex_t vis_ex hs, hd.length.symm⟩, q _ H M (Ex.refl _) (.int _)⟩
theorem cb_lenM {k : Nat} {l : Addr} (hk : m[k]? = some (l, .lst ds)) : CbD K (rLen K) [.ref l] m (.int ds.length) := fun vs H M r Q q => by
  obtain ⟨v, rfl, r'⟩ := r.one
  have r := r'
  obtain ⟨xs, hs, hd⟩ := M.cell hk
  exact ⟨_, ds.length, rfl, by rw [r.ref_of]; exact .inl ⟨xs, SqL.of hs, hd.length.symm⟩, q _ H M (Ex.refl _) (.int _)⟩
/-- list(..), tuple(..) -/
def rListOf (K : PySem.W.Frag) : List V → Hp → VK → Prop := fun xs H Q => ∃ p ys, xs = [.ref p] ∧ (SqL K H p ys ∨ SqT K H p ys) ∧ ∀ l, H l = none → Q (.ref l) (upd H l (.lst ys))
theorem cb_listT : CbD K (rListOf K) [.tup ds] m (.lst ds) := fun vs H M r Q q => by
  obtain ⟨v, rfl, r'⟩ := r.one
  have r := r'
  obtain ⟨a, xs, rfl, hs, hd⟩ := r.tup_of
  exact ⟨a, xs, rfl, .inr (ex_t vis_ex hs), fun l hl => q _ _ (M.new hl) (ex_new hl) (.lst (SqL.of (vis_new M hl)) (hd.mono (ex_new hl)))⟩
theorem cb_listL : CbD K (rListOf K) [.lst ds] m (.lst ds) := fun vs H M r Q q => by
  obtain ⟨v, rfl, r'⟩ := r.one
  have r := r'
  obtain ⟨a, xs, rfl, hs, hd⟩ := r.lst_of
  exact ⟨a, xs, rfl, .inl (ex_l vis_ex hs), fun l hl => q _ _ (M.new hl) (ex_new hl) (.lst (SqL.of (vis_new M hl)) (hd.mono (ex_new hl)))⟩
def rTupleOf (K : PySem.W.Frag) : List V → Hp → VK → Prop := fun xs H Q => ∃ p ys, xs = [.ref p] ∧ ((SqL K H p ys ∧ ∀ l, H l = none → Q (.ref l) (upd H l (.tup ys))) ∨ (SqT K H p ys ∧ Q (.ref p) H))
theorem cb_tupleL : CbD K (rTupleOf K) [.lst ds] m (.tup ds) := fun vs H M r Q q => by
  obtain ⟨v, rfl, r'⟩ := r.one
  have r := r'
  obtain ⟨a, xs, rfl, hs, hd⟩ := r.lst_of
  exact ⟨a, xs, rfl, .inl ⟨ex_l vis_ex hs, fun l hl => q _ _ (M.new hl) (ex_new hl) (.tup (SqT.of (vis_new M hl)) (hd.mono (ex_new hl)))⟩⟩
theorem cb_sum {ns : List Int} : CbD K (rSum K) [.lst (ns.map .int)] m (.int ns.sum) := fun vs H M r Q q => by
  obtain ⟨v, rfl, r'⟩ := r.one
  have r := r'
  obtain ⟨a, xs, rfl, hs, hd⟩ := r.lst_of
  rw [hd.ints_of] at hs
  exact ⟨a, ns, rfl, ex_l vis_ex hs, q _ H M (Ex.refl _) (.int _)⟩
/-- isinstance(x, T), T built in -/
def tyD : D → Option String
  | .non => some "NoneType" | .bl _ => some "bool" | .int _ => some "int" | .str _ => some "str" | .tup _ => some "tuple" | .lst _ => some "list"
  | _ => none
theorem tyX_of {H : Hp} {v : V} {T : String} (r : Den K H v d) (h : tyD d = some T) : TyX K H v (.type T) := by
  cases r <;> simp only [tyD, Option.some.injEq, reduceCtorEq] at h <;> subst h
  case non => exact .base .non
  case bl => exact .base (.bl _)
  case int => exact .base (.int _)
  case str => exact .base (.str _)
  case tup hs hd =>
    rcases hs with (h | ⟨o, h⟩) | ⟨o, its, n, h, hc, _⟩
    · exact .base (.tup h)
    · exact .fTuple h
    · exact .kTuple h hc
  case lst hs hd =>
    rcases hs with (h | ⟨o, h⟩) | ⟨o, its, n, h, hc, _⟩
    · exact .base (.lst h)
    · exact .base (.frz h)
    · exact .kList h hc
theorem TyOf.mono {H H' : Hp} (e : Ex H H') {v : V} {t : Value} (h : TyOf K H v t) : TyOf K H' v t := by
  cases h with
  | non => exact .non
  | bl x => exact .bl x
  | int x => exact .int x
  | str x => exact .str x
  | flt x => exact .flt x
  | lst h => exact .lst (e _ _ h)
  | frz h => exact .frz (e _ _ h)
  | tup h => exact .tup (e _ _ h)
  | dK h => exact .dK (e _ _ h)
  | dT h => exact .dT (e _ _ h)
  | ins h a b c d2 e2 => exact .ins (e _ _ h) a b c d2 e2
theorem TyX.mono {H H' : Hp} (e : Ex H H') {v : V} {t : Value} (h : TyX K H v t) : TyX K H' v t := by
  cases h with
  | base h => exact .base (TyOf.mono e h)
  | byt b => exact .byt b
  | set h => exact .set (e _ _ h)
  | kList h c => exact .kList h c
  | kTuple h c => exact .kTuple h c
  | kDict h c => exact .kDict h c
  | fTuple h => exact .fTuple (e _ _ h)
  | fDict h => exact .fDict (e _ _ h)
theorem cb_isi {T U : String} {b : Bool} (h : tyD d = some T) (hk : kitB T U = some b) : CbD K (rIsi K) [d, .ty U] m (.bl b) := fun vs H M r Q q => by
  obtain ⟨v, w, rfl, r1, r2⟩ := r.two
  rw [r2.ty_of]
  exact ⟨v, .ty U, .type T, .type U, b, rfl, .ty U, RA.TyX.mono vis_ex (tyX_of r1 h), kit_ty hk, q _ H M (Ex.refl _) (.bl b)⟩
end
/-! ### methods of what is built in -/
section
variable {K : PySem.W.Frag} {E : XK} {tl : TA} {te ta tv tb : TE} {ts : TSt} {m : Mem} {P : D → Mem → Prop} {d : D} {ds : List D} {PO : Oc → Prop}
/-- xs.append(e), xs in the memory -/
theorem ev_append {k : Nat} {l : Addr} (ha : EvD K ta ts m (.ref l)) (he : EvD K te ts m d) (hk : m[k]? = some (l, .lst ds)) (hz : ds.length < 100000) (p : P .non (m.set k (l, .lst (ds ++ [d])))) : EvP K (tBM K "list" rAppend ta (tCons te tNil)) ts m P := fun σ H M S Q q =>
  ha σ H M S _ fun v H1 d' m' ⟨e1, e2⟩ M1 x1 r1 => by
    subst e1; subst e2
    obtain ⟨ys, hy, _⟩ := M1.cell hk
    refine ⟨by rw [r1.ref_of]; exact .inl ⟨rfl, ys, SqL.of hy⟩, ?_⟩
    refine he σ H1 M1 (S.mono x1) _ fun u H2 d' m' ⟨e1, e2⟩ M2 x2 r2 => ?_
    subst e1; subst e2
    obtain ⟨xs, hs, hd⟩ := M2.cell hk
    refine ⟨l, xs, u, r1.ref_of, rfl, hs, sz_lt (by rw [hd.length]; exact hz), ?_⟩
    exact q _ _ _ _ p (M2.write hk ⟨_, upd_same, hd.append (.cons r2 .nil)⟩) (x1.trans (x2.trans (ex_write hk))) .non
/-- xs[i] = e, xs in the memory -/
theorem s_setL {k : Nat} {l : Addr} {i : Int} {j : Nat} (he : EvD K te ts m d) (ha : EvD K ta ts m (.ref l)) (hi : EvD K tb ts m (.int i)) (hk : m[k]? = some (l, .lst ds)) (hj : ixN ds.length i = some j) (p : PO (.nx ts (m.set k (l, .lst (ds.set j d))))) :
    ExS K E (tAsg te (gSub ta tb rSetL)) ts m PO := fun σ H De M S kk =>
  he σ H M S _ fun v H1 d' m' ⟨e1, e2⟩ M1 x1 r1 => by
    subst e1; subst e2
    refine ha σ H1 M1 (S.mono x1) _ fun u H2 d' m' ⟨e1, e2⟩ M2 x2 r2 => ?_
    subst e1; subst e2
    refine hi σ H2 M2 (S.mono (x1.trans x2)) _ fun w H3 d' m' ⟨e1, e2⟩ M3 x3 r3 => ?_
    subst e1; subst e2
    obtain ⟨xs, hs, hd⟩ := M3.cell hk
    refine ⟨l, xs, i, j, r2.ref_of, r3.int_of, hs, by rw [hd.length]; exact hj, ?_⟩
    exact kk _ p σ _ (M3.write hk ⟨_, upd_same, hd.set j (r1.mono (x2.trans x3))⟩) (x1.trans (x2.trans (x3.trans (ex_write hk)))) (S.mono (x1.trans (x2.trans (x3.trans (ex_write hk)))))
/-- xs + ys of lists that stand still -/
theorem sqL_vis {H : Hp} {a : Addr} {xs : List V} (h : SqL K (vis m H) a xs) : SqL K H a xs := ex_l vis_ex h
/-- xs[a:b] -/
def EvO (K : PySem.W.Frag) (to : TO) (ts : TSt) (m : Mem) (o : Option Int) : Prop :=
  ∀ σ H, MemOk K H m → StOk K (vis m H) σ ts → ∀ Q : Option Int → Hp → Prop, (∀ H', MemOk K H' m → Ex (vis m H) (vis m H') → Q o H') → to σ H Q
theorem eo_none : EvO K tNoPart ts m none := fun σ H M S Q q => q H M (Ex.refl _)
theorem eo_some {i : Int} (h : EvD K te ts m (.int i)) : EvO K (tPart te) ts m (some i) := fun σ H M S Q q =>
  h σ H M S _ fun v H1 d' m' ⟨e1, e2⟩ M1 x1 r1 => by
    subst e1; subst e2
    exact ⟨i, r1.int_of, q H1 M1 x1⟩
def cutD (ds : List D) (lo hi : Option Int) : List D := (ds.drop (HT.sIx ds.length 0 lo)).take (HT.sIx ds.length ds.length hi - HT.sIx ds.length 0 lo)
theorem cut_dens {H : Hp} {vs : List V} (r : Dens K H vs ds) (lo hi : Option Int) : Dens K H (cutV vs lo hi) (cutD ds lo hi) := by
  unfold cutV cutD
  rw [r.length]
  exact (r.drop _).take _
theorem ev_slL {tlo thi : TO} {lo hi : Option Int} (h : EvD K te ts m (.lst ds)) (h1 : EvO K tlo ts m lo) (h2 : EvO K thi ts m hi) : EvD K (tSl (rSlL K) te tlo thi) ts m (.lst (cutD ds lo hi)) := fun σ H M S Q q =>
  h σ H M S _ fun v H1 d' m' ⟨e1, e2⟩ M1 x1 r1 => by
    subst e1; subst e2
    refine h1 σ H1 M1 (S.mono x1) _ fun H2 M2 x2 => h2 σ H2 M2 (S.mono (x1.trans x2)) _ fun H3 M3 x3 => ?_
    obtain ⟨a, xs, rfl, hs, hd⟩ := (r1.mono (x2.trans x3)).lst_of
    exact ⟨a, xs, rfl, ex_l vis_ex hs, fun p hp => q _ _ _ _ ⟨rfl, rfl⟩ (M3.new hp) (x1.trans (x2.trans (x3.trans (ex_new hp)))) (.lst (SqL.of (vis_new M3 hp)) ((cut_dens hd lo hi).mono (ex_new hp)))⟩
end
end RA
set_option Elab.async false
set_option linter.all false
set_option maxRecDepth 100000
set_option maxHeartbeats 4000000
/-! Errors of own classes: made, raised, caught by several clauses, with and without a name. -/
namespace RA
open PySem PySem.Spec PyProof.Rows L2 Evl

/-! ### several clauses, some with a name -/
abbrev Suite := Addr → Value → Option Addr → TS
/-- a clause: the class that it names, the slot of its name, its suite -/
abbrev Clause := Value × Option Nat × Suite
def offN (De : Ends) (i : Nat) : Ends := { nx := fun σ H => De.nx (σ.set i none) H, rt := De.rt, bk := fun σ H => De.bk (σ.set i none) H, ct := fun σ H => De.ct (σ.set i none) H }
def suN (ts : Suite) (n : Option Nat) (a : Addr) (cls : Value) (d : Option Addr) (De : Ends) (σ : L2.St) (H : Hp) : Prop := match n with
  | none => ts a cls d De σ H
  | some i => ts a cls d (offN De i) (σ.set i (some (.ref a))) H
def wG (K : PySem.W.Frag) (Wo : WX) (De : Ends) : List Clause → WX
  | [] => Wo
  | (c, n, ts) :: r => fun cls d σ H => ∃ b, PySem.W.exmOne K cls c = some b ∧
      (b = true → ∀ a, H a = none → suN ts n a cls d De σ H) ∧ (b = false → wG K Wo De r cls d σ H)
inductive HdsG (X : Cx) : List ExceptHandler → List Clause → Prop
  | nil : HdsG X [] []
  | plain {x : Str} {c : Value} {ts : Suite} {b0 : Stmt} {su : List Stmt} {np q : Pos} {hds : List ExceptHandler} {l : List Clause} (hc : Names X x c)
      (hsu : ∀ a oe cls d pn, Zc cls d oe → (∃ vs, oe.data = .fields vs) → PSs (X.suite a ((a, oe) :: pn)) (b0 :: su) (ts a cls d)) (r : HdsG X hds l) :
      HdsG X (.ExceptHandler (some (.Name x np)) none (b0 :: su) q :: hds) ((c, none, ts) :: l)
  | named {x n : Str} {i : Nat} {c : Value} {ts : Suite} {b0 : Stmt} {su : List Stmt} {np q : Pos} {hds : List ExceptHandler} {l : List Clause} (hc : Names X x c) (hi : X.N[i]? = some n) (hl : X.env.kindOf n = some .local)
      (hsu : ∀ a oe cls d pn, Zc cls d oe → (∃ vs, oe.data = .fields vs) → PSs (X.suite a ((a, oe) :: pn)) (b0 :: su) (ts a cls d)) (r : HdsG X hds l) :
      HdsG X (.ExceptHandler (some (.Name x np)) (some n) (b0 :: su) q :: hds) ((c, some i, ts) :: l)
def tTry (K : PySem.W.Frag) (Wo : WX) (l : List Clause) (tb : WX → TS) : TS := fun De σ H => tb (wG K Wo De l) De σ H
section
variable {X : Cx} {body : List Stmt} {h0 : ExceptHandler} {hds : List ExceptHandler} {l : List Clause} {pos : Pos} {tb : WX → TS} {Wo : WX}
theorem ps_tryG (hs : X.stack = X.env :: X.outer) (hf : X.env.frame = some X.env.locals) (hN : X.N.Nodup) (tk : Takes X Wo)
    (hb : ∀ (W : WX) (pn : List (Addr × Obj)) (xe : Value → Shared → Prop), Takes (X.tr pn xe) W → PassesOwn (model X.prog X.w) X.A X.env xe → PSs (X.tr pn xe) body (tb W))
    (hh : HdsG X (h0 :: hds) l) : PS X (.Try body (h0 :: hds) [] [] pos) (tTry X.K Wo l tb) := by
  refine ⟨fun pins s σ H De I h => ?_⟩
  have ok := I.ok
  have ffr : X.A.frames = some (X.env :: X.outer) := by rw [ok.frames, hs]
  refine wpAny_Try_except ?_
  refine wpAny_mono ((hb (wG X.K Wo De l) (X.pn ++ pins) (fun e s₁ => wpAny (model X.prog X.w) X.A (noteFrame e X.env) (fun _ s₂ => wpAny (model X.prog X.w) X.A (setFlight e none) (fun _ s₃ =>
    wpAny (model X.prog X.w) X.A (handleBy e X.env (h0 :: hds)) (SP X pins De) X.xe s₃) X.xe s₂) X.xe s₁) (fun u s' xx => ?_) PassesOwn.looking).run [] s σ H De (I.toTry _) h) (fun f s1 hsp => ?_) (fun e s1 he => he)
  · obtain ⟨a, B, sI, pins', σ', H', cls, d, rfl, JJ, nb, up, sky, na, os, ag, w⟩ := xx
    have J : Inv X pins σ' H' sI := JJ.ofTry ok
    have sk2 : Sky B (X.env :: X.outer) a (Zc cls d) X.env.locals s'.heap := by rw [← hs]; exact sky
    show wpAny (model X.prog X.w) X.A (noteFrame (.ref a) X.env) _ _ _
    refine Sky.land Zc.steady ffr hf sk2 fun h3 fl3 up3 => ?_
    have J3 : Inv X pins σ' H' { s' with heap := h3 } := J.landed nb fl3.1 (up.trans up3) os ag
    obtain ⟨oe3, vs3, he3, hz3, hd3⟩ := fl3.there
    have nfr : a ∉ frs (X.env :: X.outer) := fun hm => by
      obtain ⟨_, o', e', hnf⟩ := fl3.2.2.1.mem hm
      rw [he3] at e'; cases e'
      exact hnf _ hd3
    have nL : a ≠ X.env.locals := fun z => nfr (List.mem_filterMap.mpr ⟨X.env, List.mem_cons_self, by rw [hf, z]⟩)
    have nF : a ∉ X.fs := fun hm => by
      obtain ⟨e, he, q⟩ := List.mem_filterMap.mp hm
      exact nfr (List.mem_filterMap.mpr ⟨e, List.mem_cons_of_mem _ he, q⟩)
    have S3 := J3.suite he3 hd3 na nL nF
    have test : ∀ {x : Str} {c : Value} {np : Pos} {Q : Value → Shared → Prop} {E : Value → Shared → Prop}, Names X x c → Q c { s' with heap := h3 } → wpAny (model X.prog X.w) (X.A.mark (some (.ref a))) (eval (.Name x np) X.env) Q E { s' with heap := h3 } := fun {x c np Q E} hc q => by
      obtain ⟨hg, hdbg, hm | ⟨hm, hv, hnn⟩⟩ := hc
      · exact ld_glob (X := X.suite a ((a, oe3) :: (X.pn ++ pins))) S3 hg hm q hdbg
      · exact ld_blt (X := X.suite a ((a, oe3) :: (X.pn ++ pins))) S3 hg hm hv q hnn hdbg
    have LT : PySem.W.Looks (model X.prog X.w) h3 (typeOf (.ref a)) cls := fun A Q E s k q => wpAny_typeOf_ref (k _ _ he3) (by rw [hz3.1]; exact q)
    have go : ∀ {hs' : List ExceptHandler} {l' : List Clause}, HdsG X hs' l' → wG X.K Wo De l' cls d σ' H' →
        wpAny (model X.prog X.w) X.A (handleBy (.ref a) X.env hs') (SP X pins De) X.xe { s' with heap := h3 } := by
      intro hs' l' hk
      induction hk with
      | nil =>
        intro w
        refine wpAny_handleBy_nil ?_
        obtain ⟨k1, k2, k3, oe, vs, T, oT, ts', he, hz, hd, h1, hr⟩ := id fl3
        unfold PySem.passOn
        refine wpAny_bind (wpAny_field he hd h1 ?_)
        rw [if_neg (show ¬ ((Value.ref T == Value.none) = true) from by simp)]
        have fin : wpAny (model X.prog X.w) X.A (setFlight (.ref a) X.env.frame) (fun _ s4 => wpAny (model X.prog X.w) X.A (throw (.ref a) : Sem Flow) (SP X pins De) X.xe s4) X.xe { s' with heap := h3 } := by
          rw [hf]
          refine HandSPX.setFlight_upZ fl3 fun h4 hh4 up4 => wpAny_throw (tk _ _ ?_)
          exact ⟨a, B, sI, pins, σ', H', cls, d, rfl, J, nb, (up.trans up3).trans up4, .inr (.inr (by rw [hs]; exact hh4)), na, os, ag, w⟩
        first
          | exact wpAny_bind (wpAny_pure (wpAny_bind fin))
          | exact wpAny_bind fin
      | @plain x c ts b0 su np q hds2 l2 hc hsu r ih =>
        intro w
        obtain ⟨b, hb1, hyes, hno⟩ := w
        refine wpAny_handleBy_cons (codeAny_handlers_test ?_) (by intro q; cases q)
        refine test hc ((PySem.W.exm_one (M := model X.prog X.w) (J3.kIn) LT hb1).here ?_)
        cases b with
        | true =>
          refine codeAny_handlers_suite ?_
          refine HandSPX.lands_againZ fl3 fun h4 fl4 up4 => ?_
          have J4 : Inv X pins σ' H' { s' with heap := h4 } := J.landed nb fl4.1 ((up.trans up3).trans up4) os ag
          obtain ⟨oe4, vs4, he4, hz4, hd4⟩ := fl4.there
          have S4 := J4.suite he4 hd4 na nL nF
          refine wpAny_mono ((hsu a oe4 cls d (X.pn ++ pins) hz4 ⟨_, hd4⟩).run [] _ _ H' _ S4 (hyes rfl a na)) (fun f s6 hsp => ?_) (fun _ _ z => False.elim z)
          cases f with
          | next => obtain ⟨σ6, H6, S6, q6⟩ := hsp; exact ⟨_, _, S6.unsuite ok, q6⟩
          | brk => obtain ⟨σ6, H6, S6, q6⟩ := hsp; exact ⟨_, _, S6.unsuite ok, q6⟩
          | cont => obtain ⟨σ6, H6, S6, q6⟩ := hsp; exact ⟨_, _, S6.unsuite ok, q6⟩
          | ret u => obtain ⟨v6, σ6, H6, S6, r6, q6⟩ := hsp; exact ⟨_, _, _, S6.unsuite ok, r6, q6⟩
        | false =>
          show wpAny _ X.A (handleBy (.ref a) X.env hds2) _ _ _
          exact ih (hno rfl)
      | @named x n i c ts b0 su np q hds2 l2 hc hi hl hsu r ih =>
        intro w
        obtain ⟨b, hb1, hyes, hno⟩ := w
        refine wpAny_handleBy_cons (codeAny_handlers_test ?_) (by intro q; cases q)
        refine test hc ((PySem.W.exm_one (M := model X.prog X.w) (J3.kIn) LT hb1).here ?_)
        cases b with
        | true =>
          refine codeAny_handlers_suite_as ?_
          refine HandSPX.lands_againZ fl3 fun h4 fl4 up4 => ?_
          have J4 : Inv X pins σ' H' { s' with heap := h4 } := J.landed nb fl4.1 ((up.trans up3).trans up4) os ag
          obtain ⟨oe4, vs4, he4, hz4, hd4⟩ := fl4.there
          have S4 := J4.suite he4 hd4 na nL nF
          refine store_ok (X := X.suite a ((a, oe4) :: (X.pn ++ pins))) (v := .ref a) S4 hN hi (.inl hl) rfl (fun s5 S5 => ?_) (.inr hl)
          refine wpAny_mono ((hsu a oe4 cls d (X.pn ++ pins) hz4 ⟨_, hd4⟩).run [] s5 _ H' _ S5 (hyes rfl a na)) (fun f s6 hsp => ?_) (fun _ _ z => False.elim z)
          have off : ∀ {σ6 : L2.St} {H6 : Hp} {Q : Shared → Prop}, Inv (X.suite a ((a, oe4) :: (X.pn ++ pins))) [] σ6 H6 s6 → (∀ s7, Inv X pins (σ6.set i none) H6 s7 → Q s7) →
              wpAny (model X.prog X.w) X.A (do bindName X.env n .none; unbindBehindTheSuite X.env n q) (fun _ s7 => Q s7) X.xe s6 := fun {σ6 H6 Q} S6 hq => gone_ok (S6.unsuite ok) hN hi hl hq
          cases f with
          | next => obtain ⟨σ6, H6, S6, q6⟩ := hsp; exact off S6 fun s7 J7 => ⟨_, _, J7, q6⟩
          | brk => obtain ⟨σ6, H6, S6, q6⟩ := hsp; exact off S6 fun s7 J7 => ⟨_, _, J7, q6⟩
          | cont => obtain ⟨σ6, H6, S6, q6⟩ := hsp; exact off S6 fun s7 J7 => ⟨_, _, J7, q6⟩
          | ret u => obtain ⟨v6, σ6, H6, S6, r6, q6⟩ := hsp; exact off S6 fun s7 J7 => ⟨_, _, _, J7, r6, q6⟩
        | false =>
          show wpAny _ X.A (handleBy (.ref a) X.env hds2) _ _ _
          exact ih (hno rfl)
    exact go hh w
  · cases f with
    | next => obtain ⟨σ', H', JJ, q⟩ := hsp; exact wpAny_execs_nil ⟨σ', H', JJ.ofTry ok, q⟩
    | brk => obtain ⟨σ', H', JJ, q⟩ := hsp; exact ⟨σ', H', JJ.ofTry ok, q⟩
    | cont => obtain ⟨σ', H', JJ, q⟩ := hsp; exact ⟨σ', H', JJ.ofTry ok, q⟩
    | ret u => obtain ⟨v, σ', H', JJ, r, q⟩ := hsp; exact ⟨v, σ', H', JJ.ofTry ok, r, q⟩
end

/-! ### an error is made: its own __init__ calls its base's -/
/-- RunError.__init__: read off the own class at B, it is the built-in one -/
structure BaseI (K : PySem.W.Frag) (B : Addr) (mc : Value) : Prop where
  rd : ClX.CRead K B mc
  at_ : PySem.W.findCls K (.ref B) mc "__init__" = some (.val (.builtin "ValueError.__init__"))
section
variable {X : Cx} {e : Expr} {es : List Expr} {ta : TA} {p p1 p2 pos : Pos} {x : Str} {B : Addr} {mc : Value}
theorem pe_binit {pl : Sem Bool} (hg : Gl X x) (hm : X.mg x = some (.ref B)) (T : BaseI X.K B mc) (ha : PA X (e :: es) ta)
    (hc : eval (.Call (.Attribute (.Name x p1) "__init__" p2) (e :: es) [] pos) X.env = (do
      let ov ← eval (.Name x p1) X.env
      standAt p2.atName
      let (f, first) ← holding [ov] (getMethod ov "__init__" pl)
      callWith pos f first (backTo pos (starEach (e :: es) X.env)) (backToKw pos (keywordEach [] X.env))) := by rfl)
    (hdb : (x == ("__debug__" : Str)) = false := by decide) (he : starEach (e :: es) X.env = (false, eval e X.env) :: starEach es X.env := by rfl) (hpl : (backTo pos (starEach es X.env)).any (·.1) = false := by rfl) :
    PE X (.Call (.Attribute (.Name x p1) "__init__" p2) (e :: es) [] pos) (tVeI X.K ta) := by
  refine ⟨fun pins s σ H Q I h => ?_⟩
  refine PySem.W.methodCall_KW (ld_glob I hg hm ?_ hdb) hc
  refine PySem.W.method_cls I.kIn T.rd.ga (PySem.W.cls_value I.kIn T.rd.rd T.at_ (by rfl) ?_)
  show wpAny _ _ (callWith pos (Value.builtin "ValueError.__init__") [] (backTo pos (starEach (e :: es) X.env)) []) _ _ _
  refine PyProof.Rows.callWith_method1 (thn (ha.run pos pins _ σ H _ (I.tok _) h) fun us s1 ⟨vs, H1, I1, r1, a, C, ws, ev, hl, T, ea, q⟩ => ?_) he hpl
  subst ev
  cases r1 with
  | @cons _ u0 _ ur ra rw' =>
    obtain rfl : u0 = Value.ref a := ra
    have hz : ur.length ≤ sizeLine := by
      rw [← Paired.length rw', sizeLine_eq]
      omega
    exact oinit_ok T I1 ea hz fun s' J => ⟨.non, H1, J, rfl, q⟩
/-- the end of C(..) where no field was stored -/
theorem mk_bare {pins : List (Addr × Obj)} {σ : L2.St} {H1 H2 : Hp} {Q : XK} {hp hp2 h2 : Heap} {g1 g2 : Array GenState} {d1 d2 : Drawn} {t1 t2 : Nat} {os1 os2 : OsState} {a C : Addr} (T : Raises X (.ref C)) (I1 : Inv X pins σ H1 ⟨hp, g1, d1, t1, os1⟩)
    (ha : hp.objs.size ≤ a) (k : ∀ b o, hp.get? b = some o → hp2.get? b = some o) (un : Un (frs X.stack) [] (upd H1 a (exo a C none)) H2 hp2 h2) (hok : HOk X.prog X.w H2 h2) (ho : os2 = os1) (hb : AllBare g2)
    (ea : H2 a = some (exo a C none)) (q : Q (.ref C) none (del H2 a)) : MkP X pins σ Q (.ref a) ⟨h2, g2, d2, t2, os2⟩ := by
  obtain ⟨t0, hoe⟩ := exo_at hok ea
  have hn : H1 a = none := I1.hok.fresh ha
  obtain ⟨G, ga, gb⟩ := restrict h2 fun b => decide (b ≠ a)
  have gk : ∀ b, b ≠ a → G.get? b = h2.get? b := fun b hb => ga b (decide_eq_true hb)
  have ge : G.get? a = none := gb a (by simp)
  have nha : ∀ {b : Addr} {o : Obj}, hp.get? b = some o → b ≠ a := fun {b o} z => Nat.ne_of_lt (Nat.lt_of_lt_of_le (Heap.lt_size z) ha)
  have upn : ∀ {b : Addr}, b ≠ a → H1 b = none → upd H1 a (exo a C none) b = none := fun {b} hb n => by rw [upd_ne hb]; exact n
  have U : Un (frs X.stack) [] H1 (del H2 a) hp G := {
    keep := fun b o z n hf hx => (gk b (nha z)).trans (un.keep b o (k b o z) (upn (nha z) n) hf hx)
    slot := fun b o z n hf hx => by rw [gk b (nha z)]; exact un.slot b o (k b o z) (upn (nha z) n) hf hx
    free := fun b o z n hx => by rw [del_ne (nha z)]; exact un.free b o (k b o z) (upn (nha z) n) hx
    there := fun b o z hx => by rw [gk b (nha z)]; exact un.there b o (k b o z) hx
    tups := fun b xs z => by rw [del_ne (ne_of_none z hn)]; exact un.tups b xs (by rw [upd_ne (ne_of_none z hn)]; exact z)
    frzs := fun b o v z => by rw [del_ne (ne_of_none z hn)]; exact un.frzs b o v (by rw [upd_ne (ne_of_none z hn)]; exact z)
    tbls := fun b ps z => by rw [del_ne (ne_of_none z hn)]; exact un.tbls b ps (by rw [upd_ne (ne_of_none z hn)]; exact z) }
  have hok3 : HOk X.prog X.w (del H2 a) G := fun b o z => by
    have hba : b ≠ a := fun e => by rw [e, del_same] at z; cases z
    rw [del_ne hba] at z
    have noa : ∀ {c : Addr}, H2 c = some (.own b) → c ≠ a := fun {c} hc => at_ne ea hc exo_own
    exact (hok b o z).stay (fun c v hc y => by
        have hca : c ≠ a := by
          rcases hc with hc | hc
          · rw [hc]; exact hba
          · exact noa hc
        rw [gk c hca]; exact y)
      (fun c hc => by rw [del_ne (noa hc)]; exact hc) (fun c xs hc => by rw [del_ne (at_ne ea hc exo_tup)]; exact hc)
  have J : Inv X pins σ (del H2 a) ⟨G, g2, d2, t2, os2⟩ := I1.call' (ch := []) ho U hok3 hb (fun b z => absurd z (by simp))
  refine ⟨a, _, _, ⟨G, g2, d2, t2, os2⟩, _, .ref C, none, rfl, J, fun b o z => ?_, ge, hoe, ⟨rfl, rfl⟩, rfl, rfl, del_same, rfl, hb, T, q⟩
  by_cases hba : b = a
  · rw [hba, ge] at z; cases z
  · exact (gk b hba).symm.trans z
/-- C(..), its own __init__ keeping sp: no field, or a dict -/
def tMkE (C : Addr) (sp : Sp) (ta : TA) : L2.St → Hp → XK → Prop := fun σ H Q => ta σ H fun vs H1 => vs.length ≤ 1000 ∧ ∀ a, H1 a = none → sp (.ref a :: vs) (upd H1 a (exo a C none))
  (fun v H2 => v = .non ∧ ((H2 a = some (exo a C none) ∧ Q (.ref C) none (del H2 a)) ∨
    ∃ (d : Addr) (fs : List (Str × V)), H2 a = some (exo a C (some d)) ∧ H2 d = some (exd d fs) ∧ H1 d = none ∧ Q (.ref C) (some d) (upd (del H2 a) d (.xd fs)))) (fun _ _ _ => False)
variable {CX : CXT} {C fI : Addr} {k : Nat} {fd : FuncData} {ps : List Str} {sp : Sp}
theorem call_err {pins : List (Addr × Obj)} {σ : L2.St} {H1 : Hp} {s1 : Shared} {us : List Value} {vs : List V} {Q : XK} (T : OexC X.K C) (iC : PySem.W.findIn X.K (.ref C) "__init__" = some (some (.ref fI))) (tI : PySem.W.typeIn X.K (.ref fI) = some (.type "function"))
    (F1 : FnOk X.prog X.w X.K X.mg X.base CX k fI fd ps sp) (hr : Room (k + 1) X.A) (hb : Binds X.K fd ps []) (hx : Passes CX X (fun _ _ _ => False)) (I1 : Inv X pins σ H1 s1) (r1 : Vals vs us)
    (hz : vs.length ≤ 1000) (q1 : ∀ a, H1 a = none → sp (.ref a :: vs) (upd H1 a (exo a C none))
      (fun v H2 => v = .non ∧ ((H2 a = some (exo a C none) ∧ Q (.ref C) none (del H2 a)) ∨
        ∃ (d : Addr) (fs : List (Str × V)), H2 a = some (exo a C (some d)) ∧ H2 d = some (exd d fs) ∧ H1 d = none ∧ Q (.ref C) (some d) (upd (del H2 a) d (.xd fs)))) (fun _ _ _ => False)) :
    wpAny (model X.prog X.w) X.A (call (.ref C) us) (MkP X pins σ Q) X.xe s1 := by
  obtain ⟨nm, q, N, bs, bm, sn, sub, ab, col, dd, k0, k1, k2, k3, k5, hC, hbm⟩ := T.cls
  obtain ⟨hp, g, dr, tk, os⟩ := s1
  have hsz : hp.objs.size ≤ hp.objs.size + 1 := Nat.le_succ _
  have hn : H1 (hp.objs.size + 1) = none := I1.hok.fresh hsz
  have hq := q1 (hp.objs.size + 1) hn
  have kk : ∀ b o, hp.get? b = some o → ((hp.push (PySem.W.kdv_tup us)).push (PySem.HandSPX.excO C hp.objs.size)).get? b = some o := fun b o e => Heap.get?_push_of_some _ (Heap.get?_push_of_some _ e)
  have hget : ((hp.push (PySem.W.kdv_tup us)).push (PySem.HandSPX.excO C hp.objs.size)).get? (hp.objs.size + 1) = some (PySem.HandSPX.excO C hp.objs.size) := by heap_get
  have I2 : Inv X pins σ (upd H1 (hp.objs.size + 1) (exo (hp.objs.size + 1) C none)) ⟨(hp.push (PySem.W.kdv_tup us)).push (PySem.HandSPX.excO C hp.objs.size), g, dr, tk, os⟩ :=
    I1.laid (t' := tk) (a := hp.objs.size + 1) (o := exo (hp.objs.size + 1) C none) (h' := (hp.push (PySem.W.kdv_tup us)).push (PySem.HandSPX.excO C hp.objs.size)) kk hsz (exo_ok hget)
  have r2 : Vals (V.ref (hp.objs.size + 1) :: vs) (Value.ref (hp.objs.size + 1) :: us) := .cons rfl r1
  have hl : (Value.ref (hp.objs.size + 1) :: us ++ []).length = ps.length := by
    have e := r2.length
    rw [F1.len _ _ _ _ hq] at e
    rw [List.append_nil]
    exact e.symm
  have hus : us.length ≤ sizeLine := by
    rw [← Paired.length r1, sizeLine_eq]
    omega
  have hbt := hb _ (Value.ref (hp.objs.size + 1) :: us) I2.kIn hl
  rw [List.append_nil] at hbt
  refine wpAny_call (PySem.HandSPX.call_own F.excBase_ValueError (fun Y => PySem.HandSPX.refsVE_contains Y bm hbm) (I1.kIn _ _ hC) (PySem.W.looks_findIn I1.kIn iC) (fun self => PySem.W.bind_fn I1.kIn self tI) hus
    (codeAny_mono (F1.run _ X.stack _ _ ⟨Value.ref (hp.objs.size + 1) :: us, []⟩ (Value.ref (hp.objs.size + 1) :: us) _ _ (fun _ _ _ => False) (hr.make C us []) (I2.env0.make C us []) hbt r2 hq) fun r s' hq' => ?_))
  cases r with
  | error er => exact hx pins σ _ _ er s' I2 hq'
  | ok fl =>
    cases fl with
    | ret u =>
      obtain ⟨v, H2, os2, bare2, un2, hok2, rv, ev, hend⟩ := hq'
      subst ev
      obtain ⟨h2, g2, d2, t2, os'⟩ := s'
      rcases hend with ⟨ea, q2⟩ | ⟨d, fs, ea, ed, hd1, q2⟩
      · exact ⟨rv, mk_bare (raises_own T.exC T.tyC) I1 hsz kk un2 hok2 os2 bare2 ea q2⟩
      · exact ⟨rv, mk_end (raises_own T.exC T.tyC) I1 hsz kk un2 hok2 os2 bare2 ea ed hd1 q2⟩
    | next => exact False.elim hq'
    | brk => exact False.elim hq'
    | cont => exact False.elim hq'
theorem pmk_err (T : OexC X.K C) (iC : PySem.W.findIn X.K (.ref C) "__init__" = some (some (.ref fI))) (tI : PySem.W.typeIn X.K (.ref fI) = some (.type "function"))
    (F1 : FnOk X.prog X.w X.K X.mg X.base CX k fI fd ps sp) (hr : Room (k + 1) X.A) (hb : Binds X.K fd ps []) (hx : Passes CX X (fun _ _ _ => False)) (hg : Gl X x) (hm : X.mg x = some (.ref C)) (ha : PA X (e :: es) ta)
    (hdb : (x == ("__debug__" : Str)) = false := by decide) (he : starEach (e :: es) X.env = (false, eval e X.env) :: starEach es X.env := by rfl) (hpl : (backTo pos (starEach es X.env)).any (·.1) = false := by rfl) :
    PMk X (.Call (.Name x p) (e :: es) [] pos) (tMkE C sp ta) := by
  intro pins s σ H Q I h
  refine wpAny_Call_Name_kw (ld_glob I hg hm ?_ hdb)
  exact PySem.W.callWith_K (h₀ := X.base) I.ok.mod.kin T.kC (thn (ha.run pos pins s σ H _ I h) fun us s1 ⟨vs, H1, I1, r1, hz, q1⟩ => ⟨I1.kIn, call_err T iC tI F1 hr hb hx I1 r1 hz q1⟩) he hpl
theorem pmk_err0 (T : OexC X.K C) (iC : PySem.W.findIn X.K (.ref C) "__init__" = some (some (.ref fI))) (tI : PySem.W.typeIn X.K (.ref fI) = some (.type "function"))
    (F1 : FnOk X.prog X.w X.K X.mg X.base CX k fI fd ps sp) (hr : Room (k + 1) X.A) (hb : Binds X.K fd ps []) (hx : Passes CX X (fun _ _ _ => False)) (hg : Gl X x) (hm : X.mg x = some (.ref C))
    (hdb : (x == ("__debug__" : Str)) = false := by decide) : PMk X (.Call (.Name x p) [] [] pos) (tMkE C sp tNil) := by
  intro pins s σ H Q I h
  refine wpAny_Call_Name_kw (ld_glob I hg hm ?_ hdb)
  exact PySem.W.callWith_K0 I.kIn T.kC (call_err (us := []) T iC tI F1 hr hb hx I .nil h.1 h.2)
end

/-! ### what an error's __init__ promises: nothing stored, one field, two -/
def spE0 (C : Addr) : Sp := fun vs H Q _ => ∃ a, vs = [.ref a] ∧ H a = some (exo a C none) ∧ Q .non H
def spE1 (C : Addr) (f : Str) : Sp := fun vs H Q _ => ∃ a y, vs = [.ref a, y] ∧ H a = some (exo a C none) ∧ ∀ dx, H dx = none → dx ≠ a → Q .non (upd (upd H dx (exd dx [(f, y)])) a (exo a C (some dx)))
def spE2 (C : Addr) (f g : Str) : Sp := fun vs H Q _ => ∃ a y z, vs = [.ref a, y, z] ∧ H a = some (exo a C none) ∧
  ∀ dx, H dx = none → dx ≠ a → Q .non (upd (upd (upd H dx (exd dx [(f, y)])) a (exo a C (some dx))) dx (exd dx [(g, z), (f, y)]))
/-- the bodies' readings -/
def t_E0 (K : PySem.W.Frag) (s : Str) : TS := tDrop (tVeI K (tCons (tVar 0) (tCons (tC (.str s)) tNil)))
def t_E1 (K : PySem.W.Frag) (s f : Str) : TS := tSeq (tDrop (tVeI K (tCons (tVar 0) (tCons (tC (.str s)) tNil)))) (tOst K f (tVar 0) (tVar 1))
def t_E2 (K : PySem.W.Frag) (s f g : Str) : TS := tSeq (tDrop (tVeI K (tCons (tVar 0) (tCons (tC (.str s)) tNil)))) (tSeq (tOst K f (tVar 0) (tVar 1)) (tOst K g (tVar 0) (tVar 2)))
theorem pure_E0 {K : PySem.W.Frag} {C : Addr} {s : Str} {vs : List V} {H : Hp} {Q : VK} {E : XK} (T : OexC K C) (h : spE0 C vs H Q E) : t_E0 K s { nx := fun _ H' => Q .non H', rt := Q } (L2.start ["self"] vs) H := by
  obtain ⟨a, rfl, ea, q⟩ := h
  exact ⟨_, rfl, a, C, _, rfl, by simp, T, ea, q⟩
theorem pure_E1 {K : PySem.W.Frag} {C : Addr} {s f : Str} {vs : List V} {H : Hp} {Q : VK} {E : XK} (T : OexC K C) (n : PySem.W.findIn K (.ref C) f = some none) (h : spE1 C f vs H Q E) {N : Str} : t_E1 K s f { nx := fun _ H' => Q .non H', rt := Q } (L2.start ["self", N] vs) H := by
  obtain ⟨a, y, rfl, ea, q⟩ := h
  exact ⟨_, rfl, a, C, _, rfl, by simp, T, ea, _, rfl, _, rfl, a, C, rfl, T, n, .inl ⟨ea, q⟩⟩
theorem pure_E2 {K : PySem.W.Frag} {C : Addr} {s f g : Str} {vs : List V} {H : Hp} {Q : VK} {E : XK} (T : OexC K C) (n : PySem.W.findIn K (.ref C) f = some none) (n2 : PySem.W.findIn K (.ref C) g = some none) (h : spE2 C f g vs H Q E) {N M : Str} :
    t_E2 K s f g { nx := fun _ H' => Q .non H', rt := Q } (L2.start ["self", N, M] vs) H := by
  obtain ⟨a, y, z, rfl, ea, q⟩ := h
  refine ⟨_, rfl, a, C, _, rfl, by simp, T, ea, _, rfl, _, rfl, a, C, rfl, T, n, .inl ⟨ea, fun dx hdx hne => ?_⟩⟩
  refine ⟨_, rfl, _, rfl, a, C, rfl, T, n2, .inr ⟨dx, _, upd_same, ?_, by simp, q dx hdx hne⟩⟩
  rw [upd_ne hne]; exact upd_same
/-! ### raise by data -/
def tRz (t : L2.St → Hp → XK → Prop) (E : XK) : TS := fun _ σ H => t σ H fun cls d H' => E cls d H'
section
variable {K : PySem.W.Frag} {E : XK} {tl : TA} {ts : TSt} {m : Mem} {PO : Oc → Prop} {C : Addr} {f g : Str} {d d1 d2 : D}
theorem del_upd {H : Hp} {a : Addr} {o : HO} (h : H a = none) : del (upd H a o) a = H := by
  funext b
  by_cases q : b = a
  · rw [q, del_same, h]
  · rw [del_ne q, upd_ne q]
theorem s_raise0 (p : PO (.ra C [] m)) : ExS K E (tRz (tMkE C (spE0 C) tNil) E) ts m PO := fun σ H De M S k => by
  refine ⟨by decide, fun a ha => ⟨a, rfl, upd_same, rfl, .inl ⟨upd_same, ?_⟩⟩⟩
  rw [del_upd ha]
  exact k _ p _ _ H M (Ex.refl _) ⟨rfl, .inl rfl⟩
theorem ex_xd {H : Hp} {dx : Addr} {fs : List (Str × V)} (h : H dx = none) : Ex (vis m H) (vis m (upd H dx (.xd fs))) := ex_new h
theorem s_raise1 (ha : EvL K tl ts m [d]) (p : PO (.ra C [(f, d)] m)) : ExS K E (tRz (tMkE C (spE1 C f) tl) E) ts m PO := fun σ H De M S k =>
  ha σ H M S _ fun vs H1 ds m1 ⟨e1, e2⟩ M1 x1 r1 => by
    subst e1; subst e2
    obtain ⟨v, rfl, r⟩ := r1.one
    refine ⟨by simp, fun a ha => ⟨a, v, rfl, upd_same, fun dx hdx hne => ⟨rfl, .inr ⟨dx, [(f, v)], upd_same, ?_, ?_, ?_⟩⟩⟩⟩
    · rw [upd_ne hne]; exact upd_same
    · rw [upd_ne hne] at hdx; exact hdx
    · have hd1 : H1 dx = none := by rw [upd_ne hne] at hdx; exact hdx
      have e : upd (del (upd (upd (upd H1 a (exo a C none)) dx (exd dx [(f, v)])) a (exo a C (some dx))) a) dx (.xd [(f, v)]) = upd H1 dx (.xd [(f, v)]) := by
        funext b
        by_cases q : b = dx
        · rw [q, upd_same, upd_same]
        · rw [upd_ne q, upd_ne q]
          by_cases z : b = a
          · rw [z, del_same, ha]
          · rw [del_ne z, upd_ne z, upd_ne q, upd_ne z]
      rw [e]
      exact k _ p _ _ _ (M1.new hd1) (x1.trans (ex_new hd1)) ⟨rfl, .inr ⟨dx, rfl, fresh_back x1 (vis_none hd1), M1.add hd1 ⟨_, upd_same, .cons r .nil⟩⟩⟩
theorem s_raise2 (ha : EvL K tl ts m [d1, d2]) (p : PO (.ra C [(g, d2), (f, d1)] m)) : ExS K E (tRz (tMkE C (spE2 C f g) tl) E) ts m PO := fun σ H De M S k =>
  ha σ H M S _ fun vs H1 ds m1 ⟨e1, e2⟩ M1 x1 r1 => by
    subst e1; subst e2
    obtain ⟨v, w, rfl, r, r2⟩ := r1.two
    refine ⟨by simp, fun a ha => ⟨a, v, w, rfl, upd_same, fun dx hdx hne => ⟨rfl, .inr ⟨dx, [(g, w), (f, v)], ?_, upd_same, ?_, ?_⟩⟩⟩⟩
    · rw [upd_ne (Ne.symm hne)]; exact upd_same
    · rw [upd_ne hne] at hdx; exact hdx
    · have hd1 : H1 dx = none := by rw [upd_ne hne] at hdx; exact hdx
      have e : upd (del (upd (upd (upd (upd H1 a (exo a C none)) dx (exd dx [(f, v)])) a (exo a C (some dx))) dx (exd dx [(g, w), (f, v)])) a) dx (.xd [(g, w), (f, v)]) = upd H1 dx (.xd [(g, w), (f, v)]) := by
        funext b
        by_cases q : b = dx
        · rw [q, upd_same, upd_same]
        · rw [upd_ne q, upd_ne q]
          by_cases z : b = a
          · rw [z, del_same, ha]
          · rw [del_ne z, upd_ne q, upd_ne z, upd_ne q, upd_ne z]
      rw [e]
      exact k _ p _ _ _ (M1.new hd1) (x1.trans (ex_new hd1)) ⟨rfl, .inr ⟨dx, rfl, fresh_back x1 (vis_none hd1), M1.add hd1 ⟨_, upd_same, .cons r2 (.cons r .nil)⟩⟩⟩
end
end RA
set_option Elab.async false
set_option linter.all false
set_option maxRecDepth 100000
set_option maxHeartbeats 4000000
namespace RA
open PySem PySem.Spec PyProof.Rows L2 Evl
/-- a wish about errors whatever the slots are -/
def EW (n : Nat) (W : WX) : XK := fun cls d H => ∀ σ : L2.St, σ.length = n → W cls d σ H
theorem passesN {X : Cx} {W : WX} {n : Nat} (tk : Takes X W) (hn : X.N.length = n) : Passes (L2.CX X.prog X.w) X (EW n W) := fun pins σ H s e s' I c =>
  tk _ _ (XE.of_call I (fun cls d H' h => h σ (I.len.trans hn)) c)
theorem passesE {X : Cx} {W : WX} {E : XK} (tk : Takes X W) (h : ∀ cls d σ H, E cls d H → W cls d σ H) : Passes (L2.CX X.prog X.w) X E := fun pins σ H s e s' I c => passes_call tk h pins σ H s e s' I c
/-- back behind a suite: the name's slot is forgotten; the error's dict is let go -/
def offT (ts : TSt) : Option Nat → TSt
  | none => ts
  | some i => ts.set i none
def offP (nm : Option Nat) (P : Oc → Prop) : Oc → Prop
  | .nx ts m => P (.nx (offT ts nm) m)
  | .bk ts m => P (.bk (offT ts nm) m)
  | .ct ts m => P (.ct (offT ts nm) m)
  | .rt d m => P (.rt d m)
  | .ra _ _ _ => False
def dropP (x : Addr) (fs : List (Str × D)) (P : Oc → Prop) : Oc → Prop
  | .nx ts m => ∃ m', m = (x, .xd fs) :: m' ∧ P (.nx ts m')
  | .bk ts m => ∃ m', m = (x, .xd fs) :: m' ∧ P (.bk ts m')
  | .ct ts m => ∃ m', m = (x, .xd fs) :: m' ∧ P (.ct ts m')
  | .rt d m => ∃ m', m = (x, .xd fs) :: m' ∧ P (.rt d m')
  | .ra _ _ _ => False
def ts0 (n : Nat) (a : Addr) : Option Nat → TSt
  | none => List.replicate n none
  | some i => (List.replicate n none).set i (some (.ref a))
def SuiteD (K : PySem.W.Frag) (E : XK) (n : Nat) (P : Oc → Prop) (C : Addr) (fs : List (Str × D)) (m : Mem) (nm : Option Nat) (su : Suite) : Prop :=
  (fs = [] → ∀ a dd, ExS K E (su a (.ref C) dd) (ts0 n a nm) m (offP nm P)) ∧
    (fs ≠ [] → ∀ a x, x ∉ m.map (·.1) → ExS K E (su a (.ref C) (some x)) (ts0 n a nm) ((x, .xd fs) :: m) (offP nm (dropP x fs P)))
def CatchD (K : PySem.W.Frag) (E : XK) (n : Nat) (P : Oc → Prop) (C : Addr) (fs : List (Str × D)) (m : Mem) : List Clause → Prop
  | [] => P (.ra C fs m)
  | (c, nm, su) :: r => ∃ b, PySem.W.exmOne K (.ref C) c = some b ∧ (b = true → SuiteD K E n P C fs m nm su) ∧ (b = false → CatchD K E n P C fs m r)
/-- behind the body of a try -/
def TryP (K : PySem.W.Frag) (E : XK) (n : Nat) (l : List Clause) (P : Oc → Prop) : Oc → Prop
  | .ra C fs m => CatchD K E n P C fs m l
  | .nx ts m => P (.nx ts m)
  | .rt d m => P (.rt d m)
  | .bk ts m => P (.bk ts m)
  | .ct ts m => P (.ct ts m)
section
variable {K : PySem.W.Frag} {E : XK} {ts : TSt} {m : Mem} {P : Oc → Prop} {n : Nat} {l : List Clause}
theorem st_none {G : Hp} : ∀ {σ : L2.St} {n : Nat}, σ.length = n → StOk K G σ (List.replicate n none)
  | [], 0, _ => .nil
  | o :: σ, n + 1, h => .cons (by cases o <;> trivial) (st_none (by simpa using h))
theorem st_ts0 {G : Hp} {σ : L2.St} {a : Addr} (h : σ.length = n) : ∀ nm : Option Nat, StOk K G (match nm with | none => σ | some i => σ.set i (some (.ref a))) (ts0 n a nm)
  | none => st_none h
  | some i => StOk.set (.ref a) i (st_none h)
theorem s_tryE {Wo : WX} {tb : XK → TS} (hWo : ∀ cls d σ H, E cls d H → Wo cls d σ H) (hb : ∀ E', ExS K E' (tb E') ts m (TryP K E n l P)) : ExS K E (tTry K Wo l (fun W => tb (EW n W))) ts m P := fun σ H De M S k => by
  show tb (EW n (wG K Wo De l)) De σ H
  refine hb _ σ H De M S fun o p => ?_
  cases o with
  | nx ts1 m1 => exact k _ p
  | rt d m1 => exact k _ p
  | bk ts1 m1 => exact k _ p
  | ct ts1 m1 => exact k _ p
  | ra C fs m1 =>
    intro cls dd H1 M1 x1 err σ1 hl
    obtain ⟨ec, hdd⟩ := err
    subst ec
    have main : ∀ l : List Clause, CatchD K E n P C fs m1 l → wG K Wo De l (.ref C) dd σ1 H1 := by
      intro l
      induction l with
      | nil => intro q; exact hWo _ _ _ _ (k _ q _ _ H1 M1 x1 ⟨rfl, hdd⟩)
      | cons cl r ih =>
        obtain ⟨c, nm, su⟩ := cl
        rintro ⟨b, hb1, hy, hn⟩
        refine ⟨b, hb1, fun eb a ha => ?_, fun eb => ih (hn eb)⟩
        obtain ⟨h0, h1⟩ := hy eb
        have run : ∀ (dd : Option Addr) (m2 : Mem) (P2 : Oc → Prop), MemOk K H1 m2 → ExS K E (su a (.ref C) dd) (ts0 n a nm) m2 (offP nm P2) → (∀ o, P2 o → (match o with | .ra _ _ _ => True | o => Kt K (vis m2 H1) De E o)) →
            suN su nm a (.ref C) dd De σ1 H1 := by
          intro dd m2 P2 M2 hE kk
          cases nm with
          | none =>
            refine hE σ1 H1 De M2 (st_none hl) fun o q => ?_
            cases o with
            | nx ts m3 => exact kk _ q
            | rt ts m3 => exact kk _ q
            | bk ts m3 => exact kk _ q
            | ct ts m3 => exact kk _ q
            | ra C fs m3 => exact q.elim
          | some i =>
            refine hE _ H1 (offN De i) M2 (StOk.set (.ref a) i (st_none hl)) fun o q => ?_
            cases o with
            | nx ts m3 => exact fun σ4 H4 M4 x4 S4 => kk _ q _ H4 M4 x4 (S4.setN i)
            | rt ts m3 => exact kk _ q
            | bk ts m3 => exact fun σ4 H4 M4 x4 S4 => kk _ q _ H4 M4 x4 (S4.setN i)
            | ct ts m3 => exact fun σ4 H4 M4 x4 S4 => kk _ q _ H4 M4 x4 (S4.setN i)
            | ra C fs m3 => exact q.elim
        by_cases ef : fs = []
        · refine run dd m1 P M1 (h0 ef a dd) fun o q => ?_
          cases o with
          | nx ts m3 => exact (k _ q).mono x1
          | rt ts m3 => exact (k _ q).mono x1
          | bk ts m3 => exact (k _ q).mono x1
          | ct ts m3 => exact (k _ q).mono x1
          | ra C fs m3 => trivial
        · rcases hdd with z | ⟨x, ed, gx, Mx⟩
          · exact absurd z ef
          · subst ed
            have nx : x ∉ m1.map (·.1) := by
              have nd := Mx.nd
              simp only [List.map_cons, List.nodup_cons] at nd
              exact nd.1
            have x2 : Ex (vis m H) (vis ((x, D.xd fs) :: m1) H1) := fun b u hb => by
              have h2 := x1 b u hb
              have hne : b ≠ x := ne_of_none hb gx
              obtain ⟨h3, h4⟩ := vis_some h2
              rw [vis_out (by simp only [List.map_cons, List.mem_cons, not_or]; exact ⟨hne, h4⟩)]
              exact h3
            refine run (some x) _ (dropP x fs P) Mx (h1 ef a x nx) fun o q => ?_
            cases o with
            | nx ts m3 =>
              obtain ⟨m4, e4, q4⟩ := q
              subst e4
              exact fun σ4 H4 M4 x4 S4 => k _ q4 σ4 H4 M4.drop (x2.trans (x4.trans vis_cons_ex)) (S4.mono vis_cons_ex)
            | rt ts m3 =>
              obtain ⟨m4, e4, q4⟩ := q
              subst e4
              exact fun σ4 H4 M4 x4 S4 => k _ q4 σ4 H4 M4.drop (x2.trans (x4.trans vis_cons_ex)) (S4.mono vis_cons_ex)
            | bk ts m3 =>
              obtain ⟨m4, e4, q4⟩ := q
              subst e4
              exact fun σ4 H4 M4 x4 S4 => k _ q4 σ4 H4 M4.drop (x2.trans (x4.trans vis_cons_ex)) (S4.mono vis_cons_ex)
            | ct ts m3 =>
              obtain ⟨m4, e4, q4⟩ := q
              subst e4
              exact fun σ4 H4 M4 x4 S4 => k _ q4 σ4 H4 M4.drop (x2.trans (x4.trans vis_cons_ex)) (S4.mono vis_cons_ex)
            | ra C fs m3 => trivial
    exact main l p
/-- e.f, e the error that the suite holds; its dict in the memory -/
theorem ev_xf {te : TE} {a C x : Addr} {f : Str} {fs : List (Str × D)} {d : D} {k : Nat} (h : EvD K te ts m (.ref a)) (hk : m[k]? = some (x, .xd fs)) (hl : fs.lookup f = some d) : EvD K (tXf a (.ref C) (some x) C f te) ts m d := fun σ H M S Q q =>
  h σ H M S _ fun v H1 d' m' ⟨e1, e2⟩ M1 x1 r1 => by
    subst e1; subst e2
    obtain ⟨ws, hs, hf⟩ := M1.cell hk
    obtain ⟨v, h1, h2⟩ := hf.lookup hl
    exact ⟨r1.ref_of, rfl, x, ws, v, rfl, hs, h1, q v H1 _ _ ⟨rfl, rfl⟩ M1 x1 h2⟩
end
end RA
set_option Elab.async false
set_option linter.all false
set_option maxRecDepth 100000
set_option maxHeartbeats 4000000
/-! Defs as they stand behind the top, their calls; the head's facts. -/
namespace RA
open PySem PySem.Spec PyProof.Rows L2 Evl

/-! ### the head's looks -/
/-- a def by the way to it -/
structure DfP where
  path : PySem.W.Frag → Addr
  name : Str
  qual : Str
  params : Arguments
  body : List Stmt
  scope : Scope
def lookF (K : PySem.W.Frag) (a : Addr) : He.FnW := match K.lookup a with
  | some ⟨_, _, .func fd, _⟩ => some (fd.name, fd.qualname, fd.params, fd.body, fd.scope, fd.globals, fd.closure, fd.builtins)
  | _ => none
def DfP.val (d : DfP) : He.FnW := some (d.name, d.qual, d.params, .stmts d.body, d.scope, mainGlobals, [], builtinsNs)
def noDfl : Value → Bool
  | .none => true
  | _ => false
def DfP.ok (K : PySem.W.Frag) (d : DfP) : Bool := PySem.W.keepIn K (.ref (d.path K)) && (match K.lookup (d.path K) with
  | some ⟨_, _, .func fd, _⟩ => PySem.W.codeIn K fd.code d.qual && noDfl fd.defaults
  | _ => false)
/-- a def of the text as it stands at f -/
structure FnX (K : PySem.W.Frag) (x qual : Str) (params : Arguments) (body : List Stmt) (scope : Scope) (f : Addr) (fd : FuncData) : Prop where
  ex : ∃ (oc : Value) (od : Option Addr) (kV doc pm : Value) (an : Option Addr) (cdv ct : Value) (osl : Array (Option Value)),
    fd = PySem.W.fnOf x qual params body scope .none kV doc pm an cdv ct ∧ K.lookup f = some ⟨oc, od, .func fd, osl⟩ ∧ PySem.W.codeIn K cdv qual = true
  kp : PySem.W.keepIn K (.ref f) = true
theorem DfP.fnX {K : PySem.W.Frag} {d : DfP} (e : lookF K (d.path K) = d.val) (c : d.ok K = true) : ∃ fd, FnX K d.name d.qual d.params d.body d.scope (d.path K) fd := by
  obtain ⟨kp, c2⟩ := He.ba c
  unfold lookF at e
  cases q : K.lookup (d.path K) with
  | none => rw [q] at c2; cases c2
  | some o =>
    obtain ⟨oc, od, dt, osl⟩ := o
    rw [q] at c2 e
    cases dt with
    | func fd =>
      obtain ⟨n1, n2, n3, n4, n5, n6, n7, n8, n9, n10, n11, n12, n13, n14, n15⟩ := fd
      have e2 : (some (n1, n2, n3, n4, n5, n6, n7, n15) : He.FnW) = some (d.name, d.qual, d.params, .stmts d.body, d.scope, mainGlobals, [], builtinsNs) := e
      simp only [Option.some.injEq, Prod.mk.injEq] at e2
      obtain ⟨h1, h2, h3, h4, h5, h6, h7, h8⟩ := e2
      subst h1 h2 h3 h4 h5 h6 h7 h8
      obtain ⟨k1, k2⟩ := He.ba (show (PySem.W.codeIn K n13 d.qual && noDfl n8) = true from c2)
      cases n8 with
      | none => exact ⟨_, ⟨oc, od, n9, n10, n11, n12, n13, n14, osl, rfl, q, k1⟩, kp⟩
      | _ => cases k2
    | _ => cases c2
/-- the Hook: a Bool of the written part, the defs -/
abbrev AlP : Type := Bool × List He.FnW
def obsP (ex : PySem.W.Frag → Bool) (fs : List DfP) (K : PySem.W.Frag) : AlP := (ex K && fs.all (fun d => d.ok K), fs.map fun d => lookF K (d.path K))
def valP (fs : List DfP) : AlP := (true, fs.map DfP.val)
structure SaysP (ex : PySem.W.Frag → Bool) (fs : List DfP) (K : PySem.W.Frag) : Prop where
  eq : obsP ex fs K = valP fs
def obsPG (n : Nat) (ex : PySem.W.Frag → Bool) (fs : List DfP) (g : Addr → Option Obj) : AlP := obsP ex fs (He.frG g (He.asD g n ++ [cStatics]))
def hookP (n : Nat) (ex : PySem.W.Frag → Bool) (fs : List DfP) : PySem.W.Hook where
  α := AlP
  obs := fun s => obsPG n ex fs s.heap.get?
  val := fun _ => valP fs
  says := fun _ h => ∃ K : PySem.W.Frag, K.In h ∧ SaysP ex fs K
  of := fun _ _ e => ⟨_, He.frG_in, ⟨e⟩⟩
  keeps := fun _ _ _ ⟨K, hK, c⟩ k => ⟨K, PySem.W.Frag.In.keeps hK k, c⟩
theorem obsPG_eq {n : Nat} {ex : PySem.W.Frag → Bool} {fs : List DfP} {g : Addr → Option Obj} {s : Shared} (h : ∀ a, g a = s.heap.get? a) : obsPG n ex fs g = (hookP n ex fs).obs s := by
  have e : g = s.heap.get? := funext h
  rw [e]; rfl
theorem SaysP.ex {ex : PySem.W.Frag → Bool} {fs : List DfP} {K : PySem.W.Frag} (c : SaysP ex fs K) : ex K = true := (He.ba (Prod.mk.inj c.eq).1).1
theorem SaysP.def_ {ex : PySem.W.Frag → Bool} {fs : List DfP} {K : PySem.W.Frag} (c : SaysP ex fs K) (i : Nat) {d : DfP} (h : fs[i]? = some d := by rfl) : ∃ fd, FnX K d.name d.qual d.params d.body d.scope (d.path K) fd := by
  obtain ⟨e1, e2⟩ := Prod.mk.inj c.eq
  have hm : d ∈ fs := List.mem_of_getElem? h
  have h1 := (List.all_eq_true.mp (He.ba e1).2) d hm
  have h2 := congrArg (fun l : List He.FnW => l[i]?) e2
  simp only [List.getElem?_map, h, Option.map_some, Option.some.injEq] at h2
  exact DfP.fnX h2 h1
/-- the getter of a property -/
def getA (K : PySem.W.Frag) (x f : Str) : Addr := match PySem.W.recIn K (He.ma K (He.ga K x) f) "property" with
  | some (.ref g :: _) => g
  | _ => 0
def propB (K : PySem.W.Frag) (x f : Str) : Bool := He.eqO (PySem.W.findIn K (.ref (He.ga K x)) f) (some (some (.ref (He.ma K (He.ga K x) f)))) &&
  (He.eqO (PySem.W.specialIn K (.ref (He.ma K (He.ga K x) f)) "__get__") (some (some (.builtin "property.__get__"))) && (decide (PySem.W.takesIn K (.ref (He.ma K (He.ga K x) f)) = some true) &&
    (match PySem.W.recIn K (He.ma K (He.ga K x) f) "property" with
      | some (.ref g :: _) => decide (g = getA K x f)
      | _ => false)))
theorem propB_ok {K : PySem.W.Frag} {x f : Str} (h : propB K x f = true) : PropOf K (He.ga K x) f (He.ma K (He.ga K x) f) (getA K x f) := by
  obtain ⟨h1, h⟩ := He.ba h
  obtain ⟨h2, h⟩ := He.ba h
  obtain ⟨h3, h4⟩ := He.ba h
  refine ⟨He.eqO_ok h1, He.eqO_ok h2, of_decide_eq_true h3, ?_⟩
  cases q : PySem.W.recIn K (He.ma K (He.ga K x) f) "property" with
  | none => rw [q] at h4; cases h4
  | some l =>
    rw [q] at h4
    cases l with
    | nil => cases h4
    | cons v r =>
      cases v with
      | ref g => exact ⟨r, by rw [of_decide_eq_true h4]⟩
      | _ => cases h4
/-- an error's class -/
def oexB (K : PySem.W.Frag) (C : Addr) : Bool := (match K.lookup C with
    | some ⟨.type "type", _, .cls cd, sl⟩ => (match cd.mro, sl.toList with
      | .ref C' :: bm, [_, _, _, _, some (.builtin n), _] => C' == C && n == "ValueError.__new__" && !cd.hasDel && cd.hasDict && HandSPX.refsVE bm
      | _, _ => false)
    | _ => false) && (He.eqO (PySem.W.findIn K (.ref C) "__setattr__") (some (some (.builtin "object.__setattr__"))) &&
  (decide (PySem.W.subIn K (.ref C) (.type "BaseException") = some true) && (decide (PySem.W.typeIn K (.ref C) = some (.type "type")) && PySem.W.keepIn K (.ref C))))
theorem oexB_ok {K : PySem.W.Frag} {C : Addr} (h : oexB K C = true) : OexC K C := by
  obtain ⟨q, h⟩ := He.ba h
  obtain ⟨h1, h⟩ := He.ba h
  obtain ⟨h2, h⟩ := He.ba h
  obtain ⟨h3, h4⟩ := He.ba h
  refine ⟨?_, He.eqO_ok h1, of_decide_eq_true h2, of_decide_eq_true h3, h4⟩
  split at q
  · rename_i dd cd sl ho
    split at q
    · rename_i C' bm k0 k1 k2 k3 n k5 hm hs
      simp only [Bool.and_eq_true, beq_iff_eq, Bool.not_eq_true'] at q
      obtain ⟨⟨⟨⟨rfl, rfl⟩, hdel⟩, hdd⟩, hr⟩ := q
      obtain ⟨nm, bs, mro, ns, qn, hd, sn, sub, ab, col, del⟩ := cd
      dsimp only at hm hdel hdd
      subst hm hdel hdd
      obtain ⟨l⟩ := sl
      dsimp only at hs
      subst hs
      exact ⟨nm, qn, ns, bs, bm, sn, sub, ab, col, dd, k0, k1, k2, k3, k5, ho, hr⟩
    · cases q
  · cases q
/-- what is asked of an error's class besides: its own __init__, no attribute of its fields' names -/
def initB (K : PySem.W.Frag) (C : Addr) : Bool := He.eqO (PySem.W.findIn K (.ref C) "__init__") (some (some (.ref (He.ma K C "__init__")))) && decide (PySem.W.typeIn K (.ref (He.ma K C "__init__")) = some (.type "function"))
def baseB (K : PySem.W.Frag) (B : Addr) : Bool := PySem.W.readsIn K B (.type "type") && (He.eqO (PySem.W.specialIn K (.ref B) "__getattribute__") (some (some (.builtin "type.__getattribute__"))) &&
  (match PySem.W.findCls K (.ref B) (.type "type") "__init__" with
    | some (.val (.builtin n)) => decide (n = "ValueError.__init__")
    | _ => false))
theorem baseB_ok {K : PySem.W.Frag} {B : Addr} (h : baseB K B = true) : BaseI K B (.type "type") := by
  obtain ⟨h1, h⟩ := He.ba h
  obtain ⟨h2, h3⟩ := He.ba h
  refine ⟨⟨h1, He.eqO_ok h2⟩, ?_⟩
  split at h3
  · rename_i n e
    rw [e, of_decide_eq_true h3]
  · cases h3

/-! ### defs that stand and keep a promise -/
structure HasF (P : Program) (w : World) (K : PySem.W.Frag) (mg : Str → Option Value) (base : Heap) (x : Str) (k : Nat) (ps : List Str) (sp : Sp) : Prop where
  ex : ∃ f fd, mg x = some (.ref f) ∧ PySem.W.keepIn K (.ref f) = true ∧ Binds K fd ps [] ∧ FnOk P w K mg base (L2.CX P w) k f fd ps sp
/-- a class whose instances are made -/
structure HasC (P : Program) (w : World) (K : PySem.W.Frag) (mg : Str → Option Value) (base : Heap) (x : Str) (C : Addr) (k : Nat) (ps : List Str) (sp : Sp) : Prop where
  gl : mg x = some (.ref C)
  ex : ∃ f fd, Mk K C f ∧ Binds K fd ps [] ∧ FnOk P w K mg base (L2.CX P w) k f fd ps sp
/-- an error's class -/
structure HasE (P : Program) (w : World) (K : PySem.W.Frag) (mg : Str → Option Value) (base : Heap) (x : Str) (C : Addr) (k : Nat) (ps : List Str) (sp : Sp) : Prop where
  gl : mg x = some (.ref C)
  oex : OexC K C
  ex : ∃ f fd, PySem.W.findIn K (.ref C) "__init__" = some (some (.ref f)) ∧ PySem.W.typeIn K (.ref f) = some (.type "function") ∧ Binds K fd ps [] ∧ FnOk P w K mg base (L2.CX P w) k f fd ps sp
/-- a method -/
structure HasM (P : Program) (w : World) (K : PySem.W.Frag) (mg : Str → Option Value) (base : Heap) (C : Addr) (x : Str) (k : Nat) (ps : List Str) (sp : Sp) : Prop where
  cl : Cls K C
  ex : ∃ f fd, Meth K C x f ∧ Binds K fd ps [] ∧ FnOk P w K mg base (L2.CX P w) k f fd ps sp
/-- a property -/
structure HasP (P : Program) (w : World) (K : PySem.W.Frag) (mg : Str → Option Value) (base : Heap) (C : Addr) (x : Str) (k : Nat) (ps : List Str) (sp : Sp) : Prop where
  cl : Cls K C
  ex : ∃ p g fd, PropOf K C x p g ∧ Binds K fd ps [] ∧ FnOk P w K mg base (L2.CX P w) k g fd ps sp
section
variable {X : Cx} {x mn : Str} {C : Addr} {k : Nat} {ps : List Str} {sp : Sp} {E : XK} {p pos apos : Pos} {o e : Expr} {es : List Expr} {t : TA} {ta : TE}
theorem pe_callH (F : HasF X.prog X.w X.K X.mg X.base x k ps sp) (hr : Room k X.A) (hx : Passes (L2.CX X.prog X.w) X E) (ha : PA X (e :: es) t) (hg : Gl X x := by rfl) (hdb : (x == ("__debug__" : Str)) = false := by decide)
    (he : starEach (e :: es) X.env = (false, eval e X.env) :: starEach es X.env := by rfl) (hpl : (backTo pos (starEach es X.env)).any (·.1) = false := by rfl) : PE X (.Call (.Name x p) (e :: es) [] pos) (tCall sp [] E t) := by
  obtain ⟨f, fd, h1, h2, h3, h4⟩ := F.ex
  exact pe_call h4 hr hg h1 h2 h3 .nil hx ha hdb he hpl
theorem pe_callH0 (F : HasF X.prog X.w X.K X.mg X.base x k ps sp) (hr : Room k X.A) (hx : Passes (L2.CX X.prog X.w) X E) (hg : Gl X x := by rfl) (hdb : (x == ("__debug__" : Str)) = false := by decide) : PE X (.Call (.Name x p) [] [] pos) (tCall sp [] E tNil) := by
  obtain ⟨f, fd, h1, h2, h3, h4⟩ := F.ex
  exact pe_call0 h4 hr hg h1 h2 h3 .nil hx hdb
theorem pe_makeH (F : HasC X.prog X.w X.K X.mg X.base x C k ps sp) (hr : Room (k + 1) X.A) (hx : Passes (L2.CX X.prog X.w) X E) (ha : PA X (e :: es) t) (hg : Gl X x := by rfl) (hdb : (x == ("__debug__" : Str)) = false := by decide)
    (he : starEach (e :: es) X.env = (false, eval e X.env) :: starEach es X.env := by rfl) (hpl : (backTo pos (starEach es X.env)).any (·.1) = false := by rfl) : PE X (.Call (.Name x p) (e :: es) [] pos) (tMake C sp [] E t) := by
  obtain ⟨f, fd, h1, h2, h3⟩ := F.ex
  exact pe_make h1 h3 hr hg F.gl h2 .nil hx ha hdb he hpl
theorem pmk_errH (F : HasE X.prog X.w X.K X.mg X.base x C k ps sp) (hr : Room (k + 1) X.A) (hx : Passes (L2.CX X.prog X.w) X (fun _ _ _ => False)) (ha : PA X (e :: es) t) (hg : Gl X x := by rfl) (hdb : (x == ("__debug__" : Str)) = false := by decide)
    (he : starEach (e :: es) X.env = (false, eval e X.env) :: starEach es X.env := by rfl) (hpl : (backTo pos (starEach es X.env)).any (·.1) = false := by rfl) : PMk X (.Call (.Name x p) (e :: es) [] pos) (tMkE C sp t) := by
  obtain ⟨f, fd, h1, h2, h3, h4⟩ := F.ex
  exact pmk_err F.oex h1 h2 h4 hr h3 hx hg F.gl ha hdb he hpl
theorem pmk_errH0 (F : HasE X.prog X.w X.K X.mg X.base x C k ps sp) (hr : Room (k + 1) X.A) (hx : Passes (L2.CX X.prog X.w) X (fun _ _ _ => False)) (hg : Gl X x := by rfl) (hdb : (x == ("__debug__" : Str)) = false := by decide) : PMk X (.Call (.Name x p) [] [] pos) (tMkE C sp tNil) := by
  obtain ⟨f, fd, h1, h2, h3, h4⟩ := F.ex
  exact pmk_err0 F.oex h1 h2 h4 hr h3 hx hg F.gl hdb
theorem pe_methH {pl : Sem Bool} (he : PE X o ta) (F : HasM X.prog X.w X.K X.mg X.base C mn k ps sp) (hr : Room k X.A) (hx : Passes (L2.CX X.prog X.w) X E) (ha : PA X (e :: es) t)
    (hst : starEach (e :: es) X.env = (false, eval e X.env) :: starEach es X.env := by rfl) (hpl : (backTo pos (starEach es X.env)).any (·.1) = false := by rfl)
    (ht : eval (.Call (.Attribute o mn apos) (e :: es) [] pos) X.env = (do
      let ov ← eval o X.env
      standAt apos.atName
      let (f, first) ← holding [ov] (getMethod ov mn pl)
      callWith pos f first (backTo pos (starEach (e :: es) X.env)) (backToKw pos (keywordEach [] X.env))) := by rfl) : PE X (.Call (.Attribute o mn apos) (e :: es) [] pos) (tMeth C mn sp [] E ta t) := by
  obtain ⟨f, fd, h1, h2, h3⟩ := F.ex
  exact pe_meth he F.cl h1 h3 hr h2 .nil hx ha hst hpl ht
theorem pe_methH0 {pl : Sem Bool} (he : PE X o ta) (F : HasM X.prog X.w X.K X.mg X.base C mn k ps sp) (hr : Room k X.A) (hx : Passes (L2.CX X.prog X.w) X E)
    (ht : eval (.Call (.Attribute o mn apos) [] [] pos) X.env = (do
      let ov ← eval o X.env
      standAt apos.atName
      let (f, first) ← holding [ov] (getMethod ov mn pl)
      callWith pos f first (backTo pos (starEach [] X.env)) (backToKw pos (keywordEach [] X.env))) := by rfl) : PE X (.Call (.Attribute o mn apos) [] [] pos) (tMeth C mn sp [] E ta tNil) := by
  obtain ⟨f, fd, h1, h2, h3⟩ := F.ex
  exact pe_meth0 he F.cl h1 h3 hr h2 .nil hx ht
theorem pe_propH (he : PE X e ta) (F : HasP X.prog X.w X.K X.mg X.base C x k ps sp) (hr : Room (k + 1) X.A) (hab : attributeBase e x X.env (eval e X.env) = eval e X.env := by rfl) : PE X (.Attribute e x pos) (tProp C sp [] E0 ta) := by
  obtain ⟨pp, g, fd, h1, h2, h3⟩ := F.ex
  exact pe_prop he F.cl h1 h3 hr h2 .nil passL hab
end
/-- raise by the rule -/
theorem ps_raiseH {X : Cx} {E : XK} {e : Expr} {t : L2.St → Hp → XK → Prop} {pos : Pos} (hc : X.calm = true) (tk : Takes X (fun cls d _ H => E cls d H)) (he : PMk X e t) : PS X (.Raise (some e) none pos) (tRz t E) := ps_raise hc tk he
section
variable {P : Program} {w : World} {K : PySem.W.Frag} {mg : Str → Option Value} {base : Heap}
/-- the context of a def's body -/
abbrev bodyX (P : Program) (w : World) (K : PySem.W.Frag) (mg : Str → Option Value) (base : Heap) (N : List Str) (qual : Str) (scope : Scope) (f : Addr) (cdv : Value) (A : Around) (outer : List Env) (s : Shared) (H : Hp) (E : XK) : Cx :=
  cxOf (L2.CX P w) P w K mg base N qual scope f cdv A outer s H E
theorem pxE {N : List Str} {qual : Str} {scope : Scope} {f : Addr} {cdv : Value} {A : Around} {outer : List Env} {s : Shared} {H : Hp} {E : XK} : Passes (L2.CX P w) (bodyX P w K mg base N qual scope f cdv A outer s H E) E :=
  passesE (takes_of rfl rfl rfl rfl) fun _ _ _ _ h => h
theorem tkE {N : List Str} {qual : Str} {scope : Scope} {f : Addr} {cdv : Value} {A : Around} {outer : List Env} {s : Shared} {H : Hp} {E : XK} : Takes (bodyX P w K mg base N qual scope f cdv A outer s H E) (fun cls d _ H => E cls d H) :=
  takes_of rfl rfl rfl rfl
/-- a def's derivation and reading give its promise -/
theorem fn_sp {x qual : Str} {params : Arguments} {body : List Stmt} {scope : Scope} {f : Addr} {fd : FuncData} {N ps : List Str} {k : Nat} {sp : Sp} (F : FnX K x qual params body scope f fd) (S : FnScope N ps scope) (len : ∀ vs H Q E, sp vs H Q E → vs.length = ps.length)
    (t : XK → TS) (hder : ∀ (cdv : Value) (A : Around) (outer : List Env) (s : Shared) (H : Hp) (E : XK), Room k (A.deeper (envOfC qual scope s.heap.objs.size f cdv)) → PSs (bodyX P w K mg base N qual scope f cdv A outer s H E) body (t E))
    (hpure : ∀ vs H Q E, sp vs H Q E → t E { nx := fun _ H' => Q .non H', rt := Q } (L2.start N vs) H) : FnOk P w K mg base (L2.CX P w) (k + 1) f fd ps sp := by
  obtain ⟨oc, od, kV, doc, pm, an, cdv, ct, osl, e, l, c⟩ := F.ex
  subst e
  exact fn_of l c S len fun A outer s H vs Q E hr h => ⟨t E, hder cdv A outer s H E hr, hpure vs H Q E h⟩
theorem binds_of {x qual : Str} {params : Arguments} {body : List Stmt} {scope : Scope} {f : Addr} {fd : FuncData} {ps : List Str} (F : FnX K x qual params body scope f fd)
    (h : ∀ (kV doc pm : Value) (an : Option Addr) (cdv ct : Value) (us : List Value), us.length = ps.length → bindArgs (PySem.W.fnOf x qual params body scope .none kV doc pm an cdv ct) ⟨us, []⟩ = pure (ps.zip us)) : Binds K fd ps [] := by
  obtain ⟨oc, od, kV, doc, pm, an, cdv, ct, osl, e, l, c⟩ := F.ex
  subst e
  exact Binds.all (h kV doc pm an cdv ct)
theorem binds_top {x qual : Str} {params : Arguments} {body : List Stmt} {scope : Scope} {f : Addr} {fd : FuncData} {p : Str} (F : FnX K x qual params body scope f fd)
    (h : ∀ (kV doc pm : Value) (an : Option Addr) (cdv ct : Value) (us : List Value), us.length = 1 → bindArgs (PySem.W.fnOf x qual params body scope .none kV doc pm an cdv ct) ⟨us, []⟩ = pure ([p].zip us)) (s : Shared) (v : Value) : BindsTo s fd ⟨[v], []⟩ [(p, v)] := by
  obtain ⟨oc, od, kV, doc, pm, an, cdv, ct, osl, e, l, c⟩ := F.ex
  subst e
  exact .of_eq (h kV doc pm an cdv ct [v] rfl)
end
/-- no error leaves: the promise without a world -/
theorem cx0_of {P : Program} {w : World} {K : PySem.W.Frag} {mg : Str → Option Value} {base : Heap} {k : Nat} {f : Addr} {fd : FuncData} {ps : List Str} {sp : Sp} (F : FnOk P w K mg base (L2.CX P w) k f fd ps sp) :
    FnOk P w K mg base CX0 k f fd ps (fun vs H Q _ => sp vs H Q (fun _ _ _ => False)) :=
  ⟨fun vs H Q E q => F.len vs H Q _ q, fun A outer s H args us vs Q E hr he hb hv hs => codeAny_mono (F.run A outer s H args us vs Q (fun _ _ _ => False) hr he hb hv hs) fun r s' c => by
    cases r with
    | ok v => cases v <;> exact c
    | error e => obtain ⟨_, _, _, _, _, _, _, _, _, _, _, _, z⟩ := c; exact z⟩
end RA
set_option Elab.async false
set_option linter.all false
set_option maxRecDepth 100000
set_option maxHeartbeats 4000000
/-! An own class's ==, isinstance with an own class. -/
namespace RA
open PySem PySem.Spec PyProof.Rows L2 Evl
structure HasQ (P : Program) (w : World) (K : PySem.W.Frag) (mg : Str → Option Value) (base : Heap) (C : Addr) (k : Nat) (ps : List Str) (sp : Sp) : Prop where
  ex : ∃ f fd, PySem.W.findIn K (.ref C) "__eq__" = some (some (.ref f)) ∧ PySem.W.isFn K (.ref f) = true ∧ Binds K fd ps [] ∧ FnOk P w K mg base (L2.CX P w) k f fd ps sp
/-- x == y, x an instance of the class at C -/
def rOwnEq (K : PySem.W.Frag) (C : Addr) (sp : Sp) (E : XK) : R2 := fun x y H Q => ∃ a dx fs, x = .ref a ∧ H a = some (.ins C dx fs) ∧
  ((∃ t, TyX K H y t ∧ PySem.W.notFirst K C t = true) ∨ ∃ b dy gs, y = .ref b ∧ H b = some (.ins C dy gs)) ∧ sp [x, y] H Q E
theorem op_ownEq {X : Cx} {C : Addr} {k : Nat} {ps : List Str} {sp : Sp} {E : XK} (F : HasQ X.prog X.w X.K X.mg X.base C k ps sp) (hr : Room k X.A) (hx : Passes (L2.CX X.prog X.w) X E) : OpR X (compareOp .Eq) (rOwnEq X.K C sp E) := by
  intro pins s σ H x y v u Q I rx ry h
  obtain ⟨f, fd, hs, hf, hb, FF⟩ := F.ex
  obtain ⟨a, dx, fs, rfl, ha, ht, q⟩ := h
  cases (show v = Value.ref a from rx)
  obtain ⟨mA, J, _⟩ := ins_get I.hok ha
  obtain ⟨od, J, _⟩ := J.look
  obtain ⟨m, hF⟩ := I.fr
  have go : ∀ {t : Value}, PySem.W.Looks (model X.prog X.w) s.heap (typeOf u) t → PySem.W.notFirst X.K C t = true → wpAny (model X.prog X.w) X.A (compareOp .Eq (.ref a) u) (EP X pins σ Q) X.xe s := by
    intro t hl hn
    show wpAny (model X.prog X.w) X.A (richCompare .Eq (.ref a) u) (EP X pins σ Q) X.xe s
    refine PySem.W.cmp_K (op := .Eq) (tb := t) hr.units0 hF I.ok.mod.kin J hl hn hs hf ?_
    refine wpAny_mono (run_fn FF hr hb .nil hx I (us := [.ref a, u]) (vs := [.ref a, y]) (.cons rfl (.cons ry .nil)) q) (fun w s' z => ?_) fun _ _ x => x
    obtain ⟨z', H', I', rz, qz⟩ := z
    exact SlX.cmpback rz ⟨z', H', I', rz, qz⟩
  rcases ht with ⟨t, ty, hn⟩ | ⟨b, dy, gs, rfl, hb'⟩
  · obtain ⟨PP, kx, hp, _⟩ := kit_of I ry ty
    exact go (kx.ty _ _ I.kIn hp) hn
  · cases (show u = Value.ref b from ry)
    obtain ⟨mB, J', _⟩ := ins_get I.hok hb'
    obtain ⟨od', J', _⟩ := J'.look
    exact go J'.type (by simp [PySem.W.notFirst])
/-- what isinstance asks of the class -/
structure InsOk (K : PySem.W.Frag) (C : Addr) : Prop where
  cl : Cls K C
  ca : PySem.W.findIn K (.ref C) "__class__" = some (some (.builtin "object.__class__"))
  cn : PySem.W.specialIn K (.builtin "object.__class__") "__get__" = some (some (.builtin "getset_descriptor.__get__"))
  ct : PySem.W.takesIn K (.builtin "object.__class__") = some true
  cm : PySem.W.mroIn K C (.type "object") = some true
  self : PySem.W.kitOne K (.ref C) (.ref C) = some true
def insB (K : PySem.W.Frag) (x : Str) : Bool := He.Fa.ok K (.cls x) && (He.eqO (PySem.W.findIn K (.ref (He.ga K x)) "__class__") (some (some (.builtin "object.__class__"))) &&
  (He.eqO (PySem.W.specialIn K (.builtin "object.__class__") "__get__") (some (some (.builtin "getset_descriptor.__get__"))) && (decide (PySem.W.takesIn K (.builtin "object.__class__") = some true) &&
    (decide (PySem.W.mroIn K (He.ga K x) (.type "object") = some true) && decide (PySem.W.kitOne K (.ref (He.ga K x)) (.ref (He.ga K x)) = some true)))))
theorem insB_ok {K : PySem.W.Frag} {x : Str} (h : insB K x = true) : InsOk K (He.ga K x) := by
  obtain ⟨h0, h⟩ := He.ba h
  obtain ⟨h1, h⟩ := He.ba h
  obtain ⟨h2, h⟩ := He.ba h
  obtain ⟨h3, h⟩ := He.ba h
  obtain ⟨h4, h5⟩ := He.ba h
  exact ⟨He.cls_ok h0, He.eqO_ok h1, He.eqO_ok h2, of_decide_eq_true h3, of_decide_eq_true h4, of_decide_eq_true h5⟩
section
variable {K : PySem.W.Frag} {E : XK} {R : Rl} {ta tb : TE} {ts : TSt} {m : Mem} {d dr : D} {C : Addr} {fs gs : List (Str × D)}
theorem ev_eqOwn (ha : EvD K ta ts m (.ins C fs)) (hb : EvD K tb ts m d) (ht : (∃ T, tyD d = some T ∧ PySem.W.notFirst K C (.type T) = true) ∨ ∃ gs, d = .ins C gs)
    (hR : R [.ins C fs, d] m (Ends2 (fun d' m' => d' = dr ∧ m' = m) noX)) : EvD K (tOp (rOwnEq K C (SpD K R) E) ta tb) ts m dr := ev_op ha hb fun v w H M r1 r2 Q q => by
  have r1' := r1
  obtain ⟨a, dx, ws, rfl, hs, hf⟩ := r1.ins_of
  refine ⟨a, dx, ws, rfl, vis_ex _ _ hs, ?_, m, _, _, M, .cons r1' (.cons r2 .nil), hR, fun o p => ?_⟩
  · rcases ht with ⟨T, hT, hn⟩ | ⟨gs, rfl⟩
    · exact .inl ⟨_, RA.TyX.mono vis_ex (tyX_of r2 hT), hn⟩
    · obtain ⟨b, dy, us, rfl, hb, _⟩ := r2.ins_of
      exact .inr ⟨b, dy, us, rfl, vis_ex _ _ hb⟩
  · cases o with
    | rt d m2 =>
      obtain ⟨e1, e2⟩ := p
      subst e1; subst e2
      exact fun v H3 M3 x3 r3 => q v H3 M3 x3 r3
    | ra C fs m2 => exact p.elim
    | nx ts m1 => exact p.elim
    | bk ts m1 => exact p.elim
    | ct ts m1 => exact p.elim
theorem cb_isiOwn (T : InsOk K C) : CbD K (rIsi K) [.ins C fs, .ref C] m (.bl true) := fun vs H M r Q q => by
  obtain ⟨v, w, rfl, r1, r2⟩ := r.two
  obtain ⟨a, dx, ws, rfl, hs, hf⟩ := r1.ins_of
  rw [r2.ref_of]
  exact ⟨.ref a, .ref C, .ref C, .ref C, true, rfl, .own C, .base (.ins (vis_ex _ _ hs) T.cl T.ca T.cn T.ct T.cm), T.self, q _ H M (Ex.refl _) (.bl _)⟩
theorem cb_isiNot {T : String} (hT : tyD d = some T) (hk : PySem.W.kitOne K (.type T) (.ref C) = some false) : CbD K (rIsi K) [d, .ref C] m (.bl false) := fun vs H M r Q q => by
  obtain ⟨v, w, rfl, r1, r2⟩ := r.two
  rw [r2.ref_of]
  exact ⟨v, .ref C, .type T, .ref C, false, rfl, .own C, RA.TyX.mono vis_ex (tyX_of r1 hT), hk, q _ H M (Ex.refl _) (.bl _)⟩
end
end RA
set_option Elab.async false
set_option linter.all false
/-! Fractions as core Lean's Rat; sizes. -/
namespace RA
/-- the size of a fraction: numerator and denominator below 2 ^ n -/
structure Sz (n : Nat) (q : Rat) : Prop where
  num : q.num.natAbs < 2 ^ n
  den : q.den < 2 ^ n
theorem two_mono {a b : Nat} (h : a ≤ b) : 2 ^ a ≤ 2 ^ b := Nat.pow_le_pow_right (by decide) h
theorem Sz.mono {n m : Nat} {q : Rat} (h : Sz n q) (l : n ≤ m) : Sz m q := ⟨Nat.lt_of_lt_of_le h.num (two_mono l), Nat.lt_of_lt_of_le h.den (two_mono l)⟩
theorem mul_lt_two {a b n m : Nat} (ha : a < 2 ^ n) (hb : b < 2 ^ m) : a * b < 2 ^ (n + m) := by
  rw [Nat.pow_add]
  by_cases h : b = 0
  · subst h; rw [Nat.mul_zero]; exact Nat.mul_pos (Nat.pow_pos (by decide)) (Nat.pow_pos (by decide))
  · exact Nat.lt_of_lt_of_le (Nat.mul_lt_mul_of_pos_right ha (Nat.pos_of_ne_zero h)) (Nat.mul_le_mul_left _ (Nat.le_of_lt hb))
theorem sz_divInt {n : Nat} {a b : Int} (ha : a.natAbs < 2 ^ n) (hb : b.natAbs < 2 ^ n) (h0 : b ≠ 0) : Sz n (Rat.divInt a b) := by
  constructor
  · rw [Rat.num_divInt]
    refine Nat.lt_of_le_of_lt ?_ ha
    have h1 : (b.sign * a).natAbs ≤ a.natAbs := by
      rw [Int.natAbs_mul, Int.natAbs_sign_of_ne_zero h0, Nat.one_mul]
      exact Nat.le_refl _
    refine Nat.le_trans ?_ h1
    exact Int.natAbs_ediv_le_natAbs _ _
  · rw [Rat.den_divInt, if_neg h0]
    exact Nat.lt_of_le_of_lt (Nat.div_le_self _ _) hb
theorem den_ne (q : Rat) : (q.den : Int) ≠ 0 := by
  have := q.den_nz
  omega
theorem add_eq (p q : Rat) : Rat.divInt (p.num * q.den + q.num * p.den) (p.den * q.den) = p + q := by
  have h := Rat.divInt_add_divInt p.num q.num (d₁ := p.den) (d₂ := q.den) (den_ne p) (den_ne q)
  rw [Rat.num_divInt_den, Rat.num_divInt_den] at h
  exact h.symm
theorem sub_eq (p q : Rat) : Rat.divInt (p.num * q.den - q.num * p.den) (p.den * q.den) = p - q := by
  have h := Rat.divInt_sub_divInt p.num q.num (d₁ := p.den) (d₂ := q.den) (den_ne p) (den_ne q)
  rw [Rat.num_divInt_den, Rat.num_divInt_den] at h
  exact h.symm
theorem mul_eq (p q : Rat) : Rat.divInt (p.num * q.num) (p.den * q.den) = p * q := by
  have h := Rat.divInt_mul_divInt p.num q.num (d₁ := p.den) (d₂ := q.den)
  rw [Rat.num_divInt_den, Rat.num_divInt_den] at h
  exact h.symm
theorem div_eq (p q : Rat) : Rat.divInt (p.num * q.den) (p.den * q.num) = p / q := by
  have h1 : p / q = p * q⁻¹ := Rat.div_def p q
  rw [h1]
  have h2 : q⁻¹ = Rat.divInt q.den q.num := by
    conv => lhs; rw [← Rat.num_divInt_den q]
    rw [Rat.inv_divInt]
  have h := Rat.divInt_mul_divInt p.num q.den (d₁ := p.den) (d₂ := q.num)
  rw [Rat.num_divInt_den] at h
  rw [h2, h]
/-- the raw parts of a sum, a difference, a product, a quotient -/
theorem sz_num {n m : Nat} {p q : Rat} (hp : Sz n p) (hq : Sz m q) : (p.num * (q.den : Int)).natAbs < 2 ^ (n + m) := by
  rw [Int.natAbs_mul]; exact mul_lt_two hp.num (by simpa using hq.den)
theorem natAbs_add_lt {a b : Int} {k : Nat} (ha : a.natAbs < 2 ^ k) (hb : b.natAbs < 2 ^ k) : (a + b).natAbs < 2 ^ (k + 1) := by
  have h := Int.natAbs_add_le a b
  rw [Nat.pow_succ]; omega
theorem natAbs_sub_lt {a b : Int} {k : Nat} (ha : a.natAbs < 2 ^ k) (hb : b.natAbs < 2 ^ k) : (a - b).natAbs < 2 ^ (k + 1) := by
  have h : (a - b).natAbs ≤ a.natAbs + b.natAbs := by omega
  rw [Nat.pow_succ]; omega
theorem sz_addN {n m : Nat} {p q : Rat} (hp : Sz n p) (hq : Sz m q) : (p.num * (q.den : Int) + q.num * p.den).natAbs < 2 ^ (n + m + 1) :=
  natAbs_add_lt (sz_num hp hq) (by have := sz_num hq hp; rwa [Nat.add_comm] at this)
theorem sz_subN {n m : Nat} {p q : Rat} (hp : Sz n p) (hq : Sz m q) : (p.num * (q.den : Int) - q.num * p.den).natAbs < 2 ^ (n + m + 1) :=
  natAbs_sub_lt (sz_num hp hq) (by have := sz_num hq hp; rwa [Nat.add_comm] at this)
theorem sz_den {n m : Nat} {p q : Rat} (hp : Sz n p) (hq : Sz m q) : ((p.den : Int) * (q.den : Int)).natAbs < 2 ^ (n + m) := by
  rw [Int.natAbs_mul]; exact mul_lt_two (by simpa using hp.den) (by simpa using hq.den)
theorem sz_mulN {n m : Nat} {p q : Rat} (hp : Sz n p) (hq : Sz m q) : (p.num * q.num).natAbs < 2 ^ (n + m) := by
  rw [Int.natAbs_mul]; exact mul_lt_two hp.num hq.num
theorem sz_divD {n m : Nat} {p q : Rat} (hp : Sz n p) (hq : Sz m q) : ((p.den : Int) * q.num).natAbs < 2 ^ (n + m) := by
  rw [Int.natAbs_mul]; exact mul_lt_two (by simpa using hp.den) hq.num
theorem two_lt {a k l : Nat} (h : a < 2 ^ k) (hl : k ≤ l) : a < 2 ^ l := Nat.lt_of_lt_of_le h (two_mono hl)
theorem dd_ne (p q : Rat) : (p.den : Int) * (q.den : Int) ≠ 0 := Int.mul_ne_zero (den_ne p) (den_ne q)
theorem Sz.add {n m : Nat} {p q : Rat} (hp : Sz n p) (hq : Sz m q) : Sz (n + m + 1) (p + q) := by
  rw [← add_eq]
  exact sz_divInt (sz_addN hp hq) (two_lt (sz_den hp hq) (Nat.le_succ _)) (dd_ne p q)
theorem Sz.sub {n m : Nat} {p q : Rat} (hp : Sz n p) (hq : Sz m q) : Sz (n + m + 1) (p - q) := by
  rw [← sub_eq]
  exact sz_divInt (sz_subN hp hq) (two_lt (sz_den hp hq) (Nat.le_succ _)) (dd_ne p q)
theorem Sz.mul {n m : Nat} {p q : Rat} (hp : Sz n p) (hq : Sz m q) : Sz (n + m) (p * q) := by
  rw [← mul_eq]
  exact sz_divInt (sz_mulN hp hq) (sz_den hp hq) (dd_ne p q)
theorem num_ne {q : Rat} (h : q ≠ 0) : q.num ≠ 0 := fun z => h (Rat.num_eq_zero.mp z)
theorem Sz.div {n m : Nat} {p q : Rat} (hp : Sz n p) (hq : Sz m q) (h : q ≠ 0) : Sz (n + m) (p / q) := by
  rw [← div_eq]
  exact sz_divInt (sz_num hp hq) (sz_divD hp hq) (Int.mul_ne_zero (den_ne p) (num_ne h))
theorem Sz.neg {n : Nat} {p : Rat} (hp : Sz n p) : Sz n (-p) := ⟨by rw [Rat.neg_num]; simpa using hp.num, hp.den⟩
theorem sz_one : Sz 1 (1 : Rat) := ⟨by decide, by decide⟩
theorem sz_zero : Sz 1 (0 : Rat) := ⟨by decide, by decide⟩
theorem sz_int {n : Nat} {i : Int} (h : i.natAbs < 2 ^ n) (hn : 0 < n) : Sz n (i : Rat) := ⟨by simpa using h, by simpa using Nat.one_lt_two_pow (by omega)⟩
/-- powers -/
theorem pow_parts (q : Rat) (k : Nat) : Rat.divInt (q.num ^ k) ((q.den : Int) ^ k) = q ^ k := by
  induction k with
  | zero => rw [Rat.pow_zero, Int.pow_zero, Int.pow_zero]; exact Rat.divInt_self' (by decide)
  | succ k ih =>
    rw [Rat.pow_succ, ← ih, Int.pow_succ, Int.pow_succ]
    have h := Rat.divInt_mul_divInt (q.num ^ k) q.num (d₁ := (q.den : Int) ^ k) (d₂ := q.den)
    rw [Rat.num_divInt_den] at h
    exact h.symm
theorem pow_lt {a : Int} {n : Nat} (h : a.natAbs < 2 ^ n) (hn : 0 < n) (k : Nat) : (a ^ k).natAbs < 2 ^ (n * k + 1) := by
  induction k with
  | zero => simp
  | succ k ih =>
    rw [Int.pow_succ, Int.natAbs_mul]
    have e : n * (k + 1) + 1 = n * k + n + 1 := by rw [Nat.mul_succ]
    have h1 : (a ^ k).natAbs * a.natAbs < 2 ^ (n * k + 1 + n) := mul_lt_two ih h
    rw [e, show n * k + n + 1 = n * k + 1 + n by omega]; exact h1
theorem Sz.pow {n : Nat} {q : Rat} (hq : Sz n q) (hn : 0 < n) (k : Nat) : Sz (n * k + 1) (q ^ k) := by
  rw [← pow_parts]
  refine sz_divInt (pow_lt hq.num hn k) (pow_lt (by simpa using hq.den) hn k) (Int.pow_ne_zero (den_ne q))
/-- the least common form by the greatest common divisor -/
theorem divInt_num_pos {a b : Int} (hb : 0 < b) : (Rat.divInt a b).num = a / (a.gcd b : Int) := by
  rw [Rat.num_divInt, Int.sign_eq_one_of_pos hb, Int.one_mul, Int.gcd_comm]
theorem divInt_den_pos {a b : Int} (hb : 0 < b) : ((Rat.divInt a b).den : Int) = b / (a.gcd b : Int) := by
  rw [Rat.den_divInt, if_neg (by omega), Int.gcd_comm]
  have e : ((b.natAbs : Nat) : Int) = b := by omega
  rw [Int.natCast_ediv, e]
theorem divInt_neg (a b : Int) : Rat.divInt (-a) (-b) = Rat.divInt a b := Rat.neg_divInt_neg a b
/-- Euclid -/
theorem gcd_mod {a b : Int} : Int.gcd b (a % b) = Int.gcd a b := by
  apply Nat.dvd_antisymm
  · have h1 : ((Int.gcd b (a % b) : Nat) : Int) ∣ b := Int.gcd_dvd_left _ _
    have h2 : ((Int.gcd b (a % b) : Nat) : Int) ∣ a % b := Int.gcd_dvd_right _ _
    have h3 : ((Int.gcd b (a % b) : Nat) : Int) ∣ a % b + b * (a / b) := Int.dvd_add h2 (Int.dvd_mul_of_dvd_left h1)
    rw [Int.emod_add_mul_ediv a b] at h3
    exact Int.dvd_gcd h3 h1
  · have h1 : ((Int.gcd a b : Nat) : Int) ∣ a := Int.gcd_dvd_left _ _
    have h2 : ((Int.gcd a b : Nat) : Int) ∣ b := Int.gcd_dvd_right _ _
    refine Int.dvd_gcd h2 ?_
    rw [Int.emod_def a b]
    exact Int.dvd_sub h1 (Int.dvd_mul_of_dvd_left h2)
theorem gcd_step {a b : Int} : Int.gcd b (a - a / b * b) = Int.gcd a b := by
  have e : a - a / b * b = a % b := by
    rw [Int.emod_def, Int.mul_comm]
  rw [e, gcd_mod]
end RA
set_option Elab.async false
set_option linter.all false
set_option maxRecDepth 100000
set_option maxHeartbeats 4000000
/-! What each def does, by data. -/
namespace RA
open PySem PySem.Spec PyProof.Rows L2 Evl
/-- the written part; the addresses of its classes and tuples -/
structure Gam where
  K : PySem.W.Frag
def Gam.cCoin (G : Gam) : Addr := He.ga G.K "Coin"
def Gam.cTosser (G : Gam) : Addr := He.ga G.K "Tosser"
def Gam.cRunError (G : Gam) : Addr := He.ga G.K "RunError"
def Gam.cInvalidCoin (G : Gam) : Addr := He.ga G.K "InvalidCoin"
def Gam.cBadRun (G : Gam) : Addr := He.ga G.K "BadRun"
def Gam.cBadState (G : Gam) : Addr := He.ga G.K "BadState"
def Gam.cBadCount (G : Gam) : Addr := He.ga G.K "BadCount"
def Gam.cBadChance (G : Gam) : Addr := He.ga G.K "BadChance"
def Gam.cBadSide (G : Gam) : Addr := He.ga G.K "BadSide"
def Gam.cEnded (G : Gam) : Addr := He.ga G.K "Ended"
def Gam.cInvalidText (G : Gam) : Addr := He.ga G.K "InvalidText"
def Gam.vNOUGHT (G : Gam) : Addr := He.ga G.K "NOUGHT"
def Gam.vONE (G : Gam) : Addr := He.ga G.K "ONE"
def Gam.vHALF (G : Gam) : Addr := He.ga G.K "HALF"
def Gam.vLINES (G : Gam) : Addr := He.ga G.K "LINES"
/-! ### fractions, coins -/
def frD (q : Rat) : D := .tup [.int q.num, .int q.den]
/-- the chance of heads of shares -/
def pOf (u d : Int) : Rat := Rat.divInt u (u + d)
def coinF (u d : Int) : List (Str × D) := [("up", .int u), ("down", .int d), ("ahead", frD (pOf u d)), ("behind", frD (pOf d u))]
def coinD (G : Gam) (u d : Int) : D := .ins G.cCoin (coinF u d)
/-- shares that a coin may have -/
def Share (u : Int) : Prop := 1 ≤ u ∧ u ≤ 9
def isIntD : D → Bool
  | .int _ => true
  | _ => false
def withinD (d : D) (lo hi : Int) : Bool := match d with
  | .int i => decide (lo ≤ i) && decide (i ≤ hi)
  | _ => false
/-- a value of some built-in kind -/
def Flat (d : D) : Prop := (tyD d).isSome = true
/-- a plain def: its one value, nothing changed -/
abbrev Val1 (P : Oc → Prop) (d : D) (m : Mem) : Prop := P (.rt d m)
def R_is_whole (G : Gam) : Rl := fun ds m P => ∃ d, ds = [d] ∧ Flat d ∧ P (.rt (.bl (isIntD d)) m)
def R_is_within (G : Gam) : Rl := fun ds m P => ∃ d lo hi, ds = [d, .int lo, .int hi] ∧ Flat d ∧ P (.rt (.bl (withinD d lo hi)) m)
def small9 (i : Int) : Prop := i.natAbs < 2 ^ 9000
def R_common (G : Gam) : Rl := fun ds m P => ∃ a b : Int, ds = [.int a, .int b] ∧ small9 a ∧ small9 b ∧ P (.rt (.int (Int.gcd a b)) m)
def R_fraction (G : Gam) : Rl := fun ds m P => ∃ a b : Int, ds = [.int a, .int b] ∧ b ≠ 0 ∧ small9 a ∧ small9 b ∧ P (.rt (frD (Rat.divInt a b)) m)
def R_Coin_init (G : Gam) : Rl := fun ds m P => ∃ x m0 d1 d2, ds = [.ref x, d1, d2] ∧ m = (x, .ins G.cCoin []) :: m0 ∧ Flat d1 ∧ Flat d2 ∧
  ((∃ u d, d1 = .int u ∧ d2 = .int d ∧ Share u ∧ Share d ∧ P (.rt .non ((x, coinD G u d) :: m0))) ∨ ((withinD d1 1 9 && withinD d2 1 9) = false ∧ P (.ra G.cInvalidCoin [] m)))
def R_Coin_heads (G : Gam) : Rl := fun ds m P => ∃ u d, ds = [coinD G u d] ∧ P (.rt (.int u) m)
def R_Coin_tails (G : Gam) : Rl := fun ds m P => ∃ u d, ds = [coinD G u d] ∧ P (.rt (.int d) m)
def R_Coin_eq (G : Gam) : Rl := fun ds m P => ∃ u d e, ds = [coinD G u d, e] ∧
  ((∃ u' d', e = coinD G u' d' ∧ P (.rt (.bl (decide (pOf u d = pOf u' d'))) m)) ∨ (∃ T, tyD e = some T ∧ PySem.W.kitOne G.K (.type T) (.ref G.cCoin) = some false ∧ P (.rt (.bl false) m)))
/-! ### the law's draws -/
def rowD (ns : List Int) (i s c : Int) : D := .lst [.lst (ns.map .int), .int i, .int s, .int c]
def RowOk (r : D) : Prop := ∃ ns i s c, r = rowD ns i s c ∧ 0 ≤ i ∧ ns.length ≤ 1000 ∧ s.natAbs < 2 ^ 31
/-- a draw: any number below many -/
def Drawn (ds : List D) (m : Mem) (Pn : Mem → Prop) (l : Addr) : Prop := ∃ (k : Nat) (r : D), m[k]? = some (l, r) ∧ RowOk r ∧ ∀ r', RowOk r' → Pn (m.set k (l, r'))
def R__law_taken (G : Gam) : Rl := fun ds m P => ∃ l many, ds = [.ref l, .int many] ∧ 0 < many ∧ many ≤ 1000 ∧ ∃ k r, m[k]? = some (l, r) ∧ RowOk r ∧ ∀ x r', 0 ≤ x → x < many → RowOk r' → P (.rt (.int x) (m.set k (l, r')))
def drawnL : List (Int × Int) := [(1, 1), (2, 1), (1, 2), (3, 2), (9, 1), (4, 6), (5, 7), (1, 8)]
def pairD (a b : Int) : D := .tup [.int a, .int b]
def R__law_drawn (G : Gam) : Rl := fun ds m P => ∃ l, ds = [.ref l] ∧ ∃ k r, m[k]? = some (l, r) ∧ RowOk r ∧ ∀ a b r', (a, b) ∈ drawnL → RowOk r' → P (.rt (pairD a b) (m.set k (l, r')))
def R__law_runs (G : Gam) : Rl := fun ds m P => ∃ l most, ds = [.ref l, .int most] ∧ 3 ≤ most ∧ most ≤ 1000 ∧ ∃ k r, m[k]? = some (l, r) ∧ RowOk r ∧
  ∀ a b r', 1 ≤ a → a ≤ most → 1 ≤ b → b ≤ most → RowOk r' → P (.rt (.lst [.int a, .int b]) (m.set k (l, r')))
/-- a law: whatever the script, True -/
def R_law (G : Gam) : Rl := fun ds m P => ∃ ns : List Int, ds = [.lst (ns.map .int)] ∧ m = [] ∧ ns.length ≤ 63 ∧ ∀ m', P (.rt (.bl true) m')
theorem law_sp {K : PySem.W.Frag} {H : Hp} {a : Addr} {ns : List Int} {E : XK} (hl : ns.length ≤ 63) (hS : SqL K H a (ns.map V.int)) : SpD K (R_law ⟨K⟩) [.ref a] H (fun v _ => v = .bl true) E :=
  ⟨[], [.lst (ns.map .int)], fun o => ∃ m', o = .rt (.bl true) m', MemOk.nil, .cons (.lst (by rw [vis_nil]; exact hS) Dens.ints) .nil, ⟨ns, rfl, rfl, hl, fun m' => ⟨m', rfl⟩⟩, fun o ⟨m', e⟩ => by
    subst e; exact fun v H1 M1 x1 r1 => r1.bl_of⟩
/-- shares are refused -/
def R__law_refused_k01 (G : Gam) : Rl := fun ds m P => ∃ d1 d2, ds = [d1, d2] ∧ Flat d1 ∧ Flat d2 ∧ P (.rt (.bl (!(withinD d1 1 9 && withinD d2 1 9))) m)
end RA
set_option Elab.async false
set_option linter.all false
set_option maxRecDepth 100000
set_option maxHeartbeats 4000000
/-! What the defs of fractions, chances and means do, by data. -/
namespace RA
open PySem PySem.Spec PyProof.Rows L2 Evl
def R_added (G : Gam) : Rl := fun ds m P => ∃ (p q : Rat) (n k : Nat), ds = [frD p, frD q] ∧ Sz n p ∧ Sz k q ∧ n + k < 9000 ∧ P (.rt (frD (p + q)) m)
def R_less (G : Gam) : Rl := fun ds m P => ∃ (p q : Rat) (n k : Nat), ds = [frD p, frD q] ∧ Sz n p ∧ Sz k q ∧ n + k < 9000 ∧ P (.rt (frD (p - q)) m)
def R_product (G : Gam) : Rl := fun ds m P => ∃ (p q : Rat) (n k : Nat), ds = [frD p, frD q] ∧ Sz n p ∧ Sz k q ∧ n + k < 9000 ∧ P (.rt (frD (p * q)) m)
def R_over (G : Gam) : Rl := fun ds m P => ∃ (p q : Rat) (n k : Nat), ds = [frD p, frD q] ∧ Sz n p ∧ Sz k q ∧ n + k < 9000 ∧ q ≠ 0 ∧ P (.rt (frD (p / q)) m)
def R_is_less (G : Gam) : Rl := fun ds m P => ∃ (p q : Rat) (n k : Nat), ds = [frD p, frD q] ∧ Sz n p ∧ Sz k q ∧ n + k < 9000 ∧ P (.rt (.bl (decide (p < q))) m)
def R_raised (G : Gam) : Rl := fun ds m P => ∃ (p : Rat) (i : Int) (n : Nat), ds = [frD p, .int i] ∧ Sz n p ∧ 0 < n ∧ 0 ≤ i ∧ n * i.toNat + 1 < 8000 ∧ i < 8000 ∧ P (.rt (frD (p ^ i.toNat)) m)
def R__law_frac (G : Gam) : Rl := fun ds m P => ∃ a b : Int, ds = [.int a, .int b] ∧ 0 < b ∧ small9 a ∧ small9 b ∧ P (.rt (frD (Rat.divInt a b)) m)
def R__law_sum (G : Gam) : Rl := R_added G
def R__law_times (G : Gam) : Rl := R_product G
def R__law_shares (G : Gam) : Rl := fun ds m P => ∃ u d : Int, ds = [pairD u d] ∧ Share u ∧ Share d ∧ P (.rt (.lst [frD (pOf u d), frD (pOf d u)]) m)
def R__law_less (G : Gam) : Rl := R_is_less G
/-! ### chances -/
def Run (j : Int) : Prop := 1 ≤ j ∧ j ≤ 40
def endsR (x y : Rat) : Rat := x + y - x * y
def headR (p q : Rat) (j k : Int) : Rat := p ^ (j - 1).toNat / endsR (p ^ (j - 1).toNat) (q ^ (k - 1).toNat)
def tailR (p q : Rat) (j k : Int) : Rat := (1 - q ^ (k - 1).toNat) * headR p q j k
def chanceR (p q : Rat) (j k s : Int) : Rat :=
  if s = 0 then p * headR p q j k + q * tailR p q j k
  else if 0 < s then p ^ (j - s).toNat + (1 - p ^ (j - s).toNat) * tailR p q j k
  else (1 - q ^ (k + s).toNat) * headR p q j k
def hereR (q x : Rat) : Rat := (1 - x) / q
def headM (p q : Rat) (j k : Int) : Rat := (hereR q (p ^ (j - 1).toNat) + (1 - p ^ (j - 1).toNat) * hereR p (q ^ (k - 1).toNat)) / endsR (p ^ (j - 1).toNat) (q ^ (k - 1).toNat)
def tailM (p q : Rat) (j k : Int) : Rat := (hereR p (q ^ (k - 1).toNat) + (1 - q ^ (k - 1).toNat) * hereR q (p ^ (j - 1).toNat)) / endsR (p ^ (j - 1).toNat) (q ^ (k - 1).toNat)
def meanR (p q : Rat) (j k s : Int) : Rat :=
  if s = 0 then 1 + (p * headM p q j k + q * tailM p q j k)
  else if 0 < s then (1 - p ^ (j - s).toNat) / q + (1 - p ^ (j - s).toNat) * tailM p q j k
  else (1 - q ^ (k + s).toNat) / p + (1 - q ^ (k + s).toNat) * headM p q j k
def untilR (p : Rat) (n : Int) : Rat := (1 - p ^ n.toNat) / ((1 - p) * p ^ n.toNat)
def R_powers (G : Gam) : Rl := fun ds m P => ∃ u d j k, ds = [coinD G u d, .int j, .int k] ∧ Share u ∧ Share d ∧ Run j ∧ Run k ∧ P (.rt (.tup [frD (pOf u d ^ (j - 1).toNat), frD (pOf d u ^ (k - 1).toNat)]) m)
def R_ends_of (G : Gam) : Rl := fun ds m P => ∃ (p q : Rat) (n k : Nat), ds = [frD p, frD q] ∧ Sz n p ∧ Sz k q ∧ n + k < 4000 ∧ P (.rt (frD (endsR p q)) m)
def R_begun (G : Gam) : Rl := fun ds m P => ∃ u d j k, ds = [coinD G u d, .int j, .int k] ∧ Share u ∧ Share d ∧ Run j ∧ Run k ∧ P (.rt (.tup [frD (headR (pOf u d) (pOf d u) j k), frD (tailR (pOf u d) (pOf d u) j k)]) m)
def R_chance_by (G : Gam) : Rl := fun ds m P => ∃ u d j k s, ds = [coinD G u d, .int j, .int k, .int s] ∧ Share u ∧ Share d ∧ Run j ∧ Run k ∧ 1 - k ≤ s ∧ s ≤ j - 1 ∧ P (.rt (frD (chanceR (pOf u d) (pOf d u) j k s)) m)
def intD : D → Int
  | .int i => i
  | _ => 0
def runOc (G : Gam) (d : D) (most : Int) (m : Mem) (o : Oc) : Oc := if withinD d 1 most = true then o else .ra G.cBadRun [("value", d)] m
def R_need_run (G : Gam) : Rl := fun ds m P => ∃ d most, ds = [d, .int most] ∧ Flat d ∧ P (runOc G d most m (.rt .non m))
def R_need_runs (G : Gam) : Rl := fun ds m P => ∃ d e most, ds = [d, e, .int most] ∧ Flat d ∧ Flat e ∧ P (runOc G d most m (runOc G e most m (.rt .non m)))
def stateOc (G : Gam) (j k : Int) (d : D) (m : Mem) (o : Oc) : Oc := if withinD d (1 - k) (j - 1) = true then o else .ra G.cBadState [] m
def R_need_state (G : Gam) : Rl := fun ds m P => ∃ j k d, ds = [.int j, .int k, d] ∧ Flat d ∧ P (stateOc G j k d m (.rt .non m))
def countOc (G : Gam) (d : D) (lo hi : Int) (m : Mem) (o : Oc) : Oc := if withinD d lo hi = true then o else .ra G.cBadCount [("value", d)] m
def R_need_count (G : Gam) : Rl := fun ds m P => ∃ d lo hi, ds = [d, .int lo, .int hi] ∧ Flat d ∧ P (countOc G d lo hi m (.rt .non m))
def R_chance (G : Gam) : Rl := fun ds m P => ∃ u d j k s, ds = [coinD G u d, j, k, s] ∧ Share u ∧ Share d ∧ Flat j ∧ Flat k ∧ Flat s ∧
  P (runOc G j 40 m (runOc G k 40 m (stateOc G (intD j) (intD k) s m (.rt (frD (chanceR (pOf u d) (pOf d u) (intD j) (intD k) (intD s))) m))))
def R_begun_means (G : Gam) : Rl := fun ds m P => ∃ u d j k, ds = [coinD G u d, .int j, .int k] ∧ Share u ∧ Share d ∧ Run j ∧ Run k ∧ P (.rt (.tup [frD (headM (pOf u d) (pOf d u) j k), frD (tailM (pOf u d) (pOf d u) j k)]) m)
def R_mean_by (G : Gam) : Rl := fun ds m P => ∃ u d j k s, ds = [coinD G u d, .int j, .int k, .int s] ∧ Share u ∧ Share d ∧ Run j ∧ Run k ∧ 1 - k ≤ s ∧ s ≤ j - 1 ∧ P (.rt (frD (meanR (pOf u d) (pOf d u) j k s)) m)
def R_mean (G : Gam) : Rl := fun ds m P => ∃ u d j k s, ds = [coinD G u d, j, k, s] ∧ Share u ∧ Share d ∧ Flat j ∧ Flat k ∧ Flat s ∧
  P (runOc G j 40 m (runOc G k 40 m (stateOc G (intD j) (intD k) s m (.rt (frD (meanR (pOf u d) (pOf d u) (intD j) (intD k) (intD s))) m))))
def R_mean_until (G : Gam) : Rl := fun ds m P => ∃ (p : Rat) (n : Int), ds = [frD p, .int n] ∧ Sz 5 p ∧ 0 < p ∧ p < 1 ∧ 0 ≤ n ∧ n ≤ 200 ∧ P (.rt (frD (untilR p n)) m)
def R_mean_heads (G : Gam) : Rl := fun ds m P => ∃ u d j, ds = [coinD G u d, j] ∧ Share u ∧ Share d ∧ Flat j ∧ P (runOc G j 40 m (.rt (frD (untilR (pOf u d) (intD j))) m))
def R_mean_both (G : Gam) : Rl := fun ds m P => ∃ u d j k, ds = [coinD G u d, j, k] ∧ Share u ∧ Share d ∧ Flat j ∧ Flat k ∧
  P (runOc G j 40 m (runOc G k 40 m (.rt (frD (untilR (pOf u d) (intD j) + untilR (pOf d u) (intD k) - meanR (pOf u d) (pOf d u) (intD j) (intD k) 0)) m)))
/-- the tuples that stand in the text -/
structure ConsOk (G : Gam) : Prop where
  one : ∀ H, SqT G.K H G.vONE [.int 1, .int 1]
structure NoughtOk (G : Gam) : Prop where
  nought : ∀ H, SqT G.K H G.vNOUGHT [.int 0, .int 1]
structure HalfOk (G : Gam) : Prop where
  half : ∀ H, SqT G.K H G.vHALF [.int 1, .int 2]
end RA
set_option Elab.async false
set_option linter.all false
set_option maxRecDepth 100000
set_option maxHeartbeats 4000000
/-! What the laws' own defs do, by data. -/
namespace RA
open PySem PySem.Spec PyProof.Rows L2 Evl
def badRunD (d : D) : D := .lst [.str "run", d]
def badCountD (d : D) : D := .lst [.str "count", d]
def runTold (j : D) (o : D) : D := if withinD j 1 40 = true then o else badRunD j
def stateTold (j k : Int) (s : D) (o : D) : D := if withinD s (1 - k) (j - 1) = true then o else .str "state"
def R__law_until (G : Gam) : Rl := fun ds m P => ∃ (p : Rat) (n : Int), ds = [frD p, .int n] ∧ Sz 5 p ∧ 0 < p ∧ p < 1 ∧ 0 ≤ n ∧ n ≤ 300 ∧ P (.rt (frD (untilR p n)) m)
def R__law_refused_k05 (G : Gam) : Rl := fun ds m P => ∃ u d j k, ds = [coinD G u d, j, .int k] ∧ Share u ∧ Share d ∧ Flat j ∧ P (.rt (runTold j (if k = 0 then .non else runTold (.int k) .non)) m)
def R__law_refused_k02 (G : Gam) : Rl := fun ds m P => ∃ u d j k s, ds = [coinD G u d, j, k, s] ∧ Share u ∧ Share d ∧ Flat j ∧ Flat k ∧ Flat s ∧ P (.rt (runTold j (runTold k (stateTold (intD j) (intD k) s .non))) m)
def R__law_refused_k03 (G : Gam) : Rl := R__law_refused_k02 G
/-- behind a head, behind a tail: 100, -100 where it is over -/
def upS (j s : Int) : Int := if (if 0 < s then s + 1 else 1) = j then 100 else (if 0 < s then s + 1 else 1)
def downS (k s : Int) : Int := if (if s < 0 then s - 1 else -1) = -k then -100 else (if s < 0 then s - 1 else -1)
def R__law_next (G : Gam) : Rl := fun ds m P => ∃ j k s, ds = [.int j, .int k, .int s] ∧ P (.rt (.lst [.int (upS j s), .int (downS k s)]) m)
/-- the dict of all chances -/
def chancesKv (u d j k : Int) : List (Key × D) := (List.range (j + k - 1).toNat).map fun i : Nat => (.inl (1 - k + (i : Int)), frD (chanceR (pOf u d) (pOf d u) j k (1 - k + (i : Int))))
/-- an end by the memory that has the new dict -/
def R_chances (G : Gam) : Rl := fun ds m P => ∃ u d j k, ds = [coinD G u d, j, k] ∧ Share u ∧ Share d ∧ Flat j ∧ Flat k ∧
  (withinD j 1 40 = true → withinD k 1 40 = true → ∀ x, x ∉ m.map (·.1) → P (.rt (.ref x) ((x, .dic (chancesKv u d (intD j) (intD k))) :: m))) ∧
  (withinD j 1 40 = true → withinD k 1 40 = false → P (.ra G.cBadRun [("value", k)] m)) ∧ (withinD j 1 40 = false → P (.ra G.cBadRun [("value", j)] m))
end RA
set_option Elab.async false
set_option linter.all false
set_option maxRecDepth 100000
set_option maxHeartbeats 1000000
/-! dicts in the memory; their keys are ints and texts -/
namespace RA
open PySem PySem.Spec PyProof.Rows L2 Evl
def kD : Key → D
  | .inl i => .int i
  | .inr x => .str x
def valD (kvs : List (Key × D)) (k : Key) : Option D := (kvs.find? fun kv => decide (kv.1 = k)).map (·.2)
def putKD (kvs : List (Key × D)) (k : Key) (d : D) : List (Key × D) :=
  if (kvs.any fun kv => decide (kv.1 = k)) = true then kvs.map (fun kv => if kv.1 = k then (kv.1, d) else kv) else kvs ++ [(k, d)]
def mergeD (kvs more : List (Key × D)) : List (Key × D) := more.foldl (fun acc kv => putKD acc kv.1 kv.2) kvs
theorem valD_nil {k : Key} : valD [] k = none := rfl
theorem valD_pos {p : Key × D} {r : List (Key × D)} {k : Key} (e : p.1 = k) : valD (p :: r) k = some p.2 := by simp [valD, List.find?_cons, e]
theorem valD_neg {p : Key × D} {r : List (Key × D)} {k : Key} (e : ¬ p.1 = k) : valD (p :: r) k = valD r k := by simp [valD, List.find?_cons, e]
theorem valD_any (k : Key) : ∀ kvs : List (Key × D), (kvs.any fun kv => decide (kv.1 = k)) = (valD kvs k).isSome
  | [] => rfl
  | p :: r => by
    rw [List.any_cons]
    by_cases e : p.1 = k
    · simp only [valD_pos e, decide_eq_true e, Bool.true_or, Option.isSome_some]
    · rw [valD_neg e, decide_eq_false e, Bool.false_or]; exact valD_any k r
theorem valD_map (k j : Key) (y : D) : ∀ kvs : List (Key × D), valD (kvs.map fun kv => if kv.1 = k then (kv.1, y) else kv) j = (valD kvs j).map fun x => if j = k then y else x
  | [] => rfl
  | p :: r => by
    have ih := valD_map k j y r
    rw [List.map_cons]
    by_cases h : p.1 = k
    · rw [if_pos h]
      by_cases e : p.1 = j
      · rw [valD_pos (p := (p.1, y)) e, valD_pos e, Option.map_some, if_pos (e.symm.trans h)]
      · rw [valD_neg (p := (p.1, y)) e, valD_neg e, ih]
    · rw [if_neg h]
      by_cases e : p.1 = j
      · rw [valD_pos (p := p) e, valD_pos e, Option.map_some, if_neg (fun z => h (e.trans z))]
      · rw [valD_neg (p := p) e, valD_neg e, ih]
theorem valD_snoc (k j : Key) (y : D) : ∀ kvs : List (Key × D), valD kvs k = none → valD (kvs ++ [(k, y)]) j = if j = k then some y else valD kvs j
  | [], _ => by
    by_cases e : k = j
    · rw [if_pos e.symm]; exact valD_pos (p := (k, y)) e
    · rw [if_neg (fun z => e z.symm)]; exact valD_neg (p := (k, y)) e
  | p :: r, hn => by
    rw [List.cons_append]
    have hk : ¬ p.1 = k := fun z => by rw [valD_pos z] at hn; cases hn
    rw [valD_neg hk] at hn
    have ih := valD_snoc k j y r hn
    by_cases e : p.1 = j
    · rw [valD_pos e, valD_pos e, if_neg (fun z => hk (e.trans z))]
    · rw [valD_neg e, valD_neg e, ih]
theorem valD_put (kvs : List (Key × D)) (k j : Key) (y : D) : valD (putKD kvs k y) j = if j = k then some y else valD kvs j := by
  unfold putKD
  by_cases a : (kvs.any fun kv => decide (kv.1 = k)) = true
  · rw [if_pos a, valD_map]
    rw [valD_any] at a
    by_cases e : j = k
    · obtain ⟨x, hx⟩ := Option.isSome_iff_exists.mp a
      rw [if_pos e, e, hx, Option.map_some, if_pos rfl]
    · rw [if_neg e]
      cases valD kvs j with
      | none => rfl
      | some x => rw [Option.map_some, if_neg e]
  · rw [if_neg a]
    refine valD_snoc k j y kvs ?_
    rw [valD_any] at a
    cases q : valD kvs k with
    | none => rfl
    | some x => rw [q] at a; exact (a rfl).elim
theorem length_putKD (kvs : List (Key × D)) (k : Key) (v : D) : (putKD kvs k v).length ≤ kvs.length + 1 := by
  unfold putKD
  split
  · rw [List.length_map]; omega
  · rw [List.length_append, List.length_cons, List.length_nil]; omega
theorem putKD_new {kvs : List (Key × D)} {k : Key} (v : D) (h : valD kvs k = none) : putKD kvs k v = kvs ++ [(k, v)] := by
  unfold putKD
  rw [valD_any, h]
  exact if_neg (by decide)
/-- tables of values and of data -/
abbrev KvR (K : PySem.W.Frag) (G : Hp) : List (Key × V) → List (Key × D) → Prop := Paired fun p q => p.1 = q.1 ∧ Den K G p.2 q.2
section
variable {K : PySem.W.Frag} {G : Hp} {ts : TSt} {m : Mem} {d : D} {E : XK} {P : D → Mem → Prop} {PO : Oc → Prop} {ta tb te : TE}
theorem KvR.mono {G' : Hp} (e : Ex G G') {ws : List (Key × V)} {kvs : List (Key × D)} (r : KvR K G ws kvs) : KvR K G' ws kvs := RA.Paired.imp (fun _ _ q => ⟨q.1, q.2.mono e⟩) r
theorem KvR.len {ws : List (Key × V)} {kvs : List (Key × D)} (r : KvR K G ws kvs) : ws.length = kvs.length := by
  unfold KvR at r
  induction r with
  | nil => rfl
  | cons _ _ ih => rw [List.length_cons, List.length_cons, ih]
theorem KvR.val {ws : List (Key × V)} {kvs : List (Key × D)} (r : KvR K G ws kvs) (k : Key) : (valD kvs k = none ∧ valV ws k = none) ∨ ∃ d v, valD kvs k = some d ∧ valV ws k = some v ∧ Den K G v d := by
  unfold KvR at r
  induction r with
  | nil => exact .inl ⟨rfl, rfl⟩
  | @cons p q ps qs h t ih =>
    by_cases e : p.1 = k
    · exact .inr ⟨q.2, p.2, valD_pos (h.1.symm.trans e), valV_pos e, h.2⟩
    · rw [valD_neg (fun z => e (h.1.trans z)), valV_neg e]; exact ih
theorem KvR.any {ws : List (Key × V)} {kvs : List (Key × D)} (r : KvR K G ws kvs) (k : Key) : (ws.any fun kv => decide (kv.1 = k)) = kvs.any fun kv => decide (kv.1 = k) := by
  unfold KvR at r
  induction r with
  | nil => rfl
  | cons h t ih => rw [List.any_cons, List.any_cons, ih, h.1]
theorem KvR.put {ws : List (Key × V)} {kvs : List (Key × D)} (r : KvR K G ws kvs) (k : Key) {v : V} (rv : Den K G v d) : KvR K G (putK ws k v) (putKD kvs k d) := by
  unfold putK putKD
  rw [r.any]
  split
  · rename_i c
    clear c
    unfold KvR at r ⊢
    induction r with
    | nil => exact .nil
    | @cons p q ps qs h t ih =>
      rw [List.map_cons, List.map_cons]
      refine .cons ?_ ih
      by_cases e : p.1 = k
      · rw [if_pos e, if_pos (h.1.symm.trans e)]; exact ⟨h.1, rv⟩
      · rw [if_neg e, if_neg (fun z => e (h.1.trans z))]; exact h
  · rename_i c
    clear c
    unfold KvR at r ⊢
    induction r with
    | nil => exact .cons ⟨rfl, rv⟩ .nil
    | cons h t ih => exact .cons h ih

theorem den_key {v : V} {k : Key} (h : Den K G v (kD k)) : v = kV k := by
  cases k with
  | inl i => exact h.int_of
  | inr x => exact h.str_of
/-- x[k] of a dict in the memory -/
theorem ev_dget {i : Nat} {a : Addr} {kvs : List (Key × D)} {k : Key} (ha : EvD K ta ts m (.ref a)) (hb : EvD K tb ts m (kD k)) (hk : m[i]? = some (a, .dic kvs)) (hv : valD kvs k = some d) : EvD K (tDGet ta tb) ts m d := fun σ H M S Q q =>
  ha σ H M S _ fun v H1 d' m' ⟨e1, e2⟩ M1 x1 r1 => by
    subst e1; subst e2
    refine hb σ H1 M1 (S.mono x1) _ fun w H2 d' m' ⟨e1, e2⟩ M2 x2 r2 => ?_
    subst e1; subst e2
    obtain ⟨ws, hs, hd⟩ := M2.cell hk
    have hd : KvR K _ ws kvs := hd
    rcases hd.val k with ⟨z, _⟩ | ⟨d1, v1, z1, z2, z3⟩
    · rw [z] at hv; cases hv
    · rw [hv] at z1
      cases z1
      refine ⟨a, v1, r1.ref_of, ?_, q v1 H2 _ _ ⟨rfl, rfl⟩ M2 (x1.trans x2) z3⟩
      rw [den_key r2, ← z2]
      exact DGet.k hs
/-- x[k] = v -/
theorem s_dput {i : Nat} {a : Addr} {kvs : List (Key × D)} {k : Key} {tv : TE} (hv : EvD K tv ts m d) (ha : EvD K ta ts m (.ref a)) (hb : EvD K tb ts m (kD k)) (hk : m[i]? = some (a, .dic kvs)) (hl : kvs.length < 100000)
    (p : PO (.nx ts (m.set i (a, .dic (putKD kvs k d))))) : ExS K E (sDPut ta tb tv) ts m PO := fun σ H De M S kk =>
  hv σ H M S _ fun v H1 d' m' ⟨e1, e2⟩ M1 x1 r1 => by
    subst e1; subst e2
    refine ha σ H1 M1 (S.mono x1) _ fun u H2 d' m' ⟨e1, e2⟩ M2 x2 r2 => ?_
    subst e1; subst e2
    refine hb σ H2 M2 (S.mono (x1.trans x2)) _ fun w H3 d' m' ⟨e1, e2⟩ M3 x3 r3 => ?_
    subst e1; subst e2
    obtain ⟨ws, hs, hd⟩ := M3.cell hk
    have hd : KvR K _ ws kvs := hd
    refine ⟨a, _, r2.ref_of, by rw [den_key r3]; exact DPut.k hs (sz_lt (by rw [hd.len]; exact hl)), ?_⟩
    exact kk _ p σ _ (M3.write hk ⟨_, upd_same, hd.put k (r1.mono (x2.trans x3))⟩) (x1.trans (x2.trans (x3.trans (ex_write hk)))) (S.mono (x1.trans (x2.trans (x3.trans (ex_write hk)))))
/-- the pairs of a display -/
def PairsR (K : PySem.W.Frag) (G : Hp) : List (V × V) → List (Key × D) → Prop := Paired fun p q => p.1 = kV q.1 ∧ Den K G p.2 q.2
def EvPs (K : PySem.W.Frag) (trs : List (TE × TE)) (ts : TSt) (m : Mem) (kds : List (Key × D)) : Prop :=
  ∀ σ H, MemOk K H m → StOk K (vis m H) σ ts → ∀ Q : List (V × V) → Hp → Prop, (∀ ps H', MemOk K H' m → Ex (vis m H) (vis m H') → PairsR K (vis m H') ps kds → Q ps H') → tPairs trs σ H Q
theorem ep_nil : EvPs K [] ts m [] := fun σ H M S Q q => q [] H M (Ex.refl _) .nil
theorem ep_cons {k : Key} {tk tv : TE} {trs : List (TE × TE)} {kds : List (Key × D)} (hk : EvD K tk ts m (kD k)) (hv : EvD K tv ts m d) (hr : EvPs K trs ts m kds) : EvPs K ((tk, tv) :: trs) ts m ((k, d) :: kds) := fun σ H M S Q q =>
  hk σ H M S _ fun v H1 d' m' ⟨e1, e2⟩ M1 x1 r1 => by
    subst e1; subst e2
    refine hv σ H1 M1 (S.mono x1) _ fun u H2 d' m' ⟨e1, e2⟩ M2 x2 r2 => ?_
    subst e1; subst e2
    refine hr σ H2 M2 (S.mono (x1.trans x2)) _ fun ps H3 M3 x3 r3 => ?_
    exact q _ H3 M3 (x1.trans (x2.trans x3)) (.cons ⟨den_key r1, r2.mono x3⟩ r3)
theorem pairs_of : ∀ {kds : List (Key × D)} {ps : List (V × V)}, PairsR K G ps kds → ∃ ws : List (Key × V), ps = ws.map (fun kv => (kV kv.1, kv.2)) ∧ KvR K G ws kds
  | [], _, r => by cases r; exact ⟨[], rfl, .nil⟩
  | q :: kds, _, r => by
    cases r with
    | @cons a b as bs h t =>
      obtain ⟨ws, e, w⟩ := pairs_of t
      refine ⟨(q.1, a.2) :: ws, ?_, .cons ⟨rfl, h.2⟩ w⟩
      rw [List.map_cons, ← e, ← h.1]
theorem KvR.merge : ∀ {more : List (Key × V)} {mds : List (Key × D)} {ws : List (Key × V)} {kvs : List (Key × D)}, KvR K G more mds → KvR K G ws kvs → KvR K G (mergeK ws more) (mergeD kvs mds) := by
  intro more mds ws kvs r
  unfold KvR at r
  induction r generalizing ws kvs with
  | nil => intro q; exact q
  | @cons p q ps qs h t ih =>
    intro r0
    have e : KvR K G (putK ws p.1 p.2) (putKD kvs q.1 q.2) := by rw [← h.1]; exact r0.put p.1 h.2
    exact ih e
theorem ev_disp {trs : List (TE × TE)} {kds : List (Key × D)} (h : ∀ p, p ∉ m.map (·.1) → EvPs K trs ts ((p, .dic []) :: m) kds) (hl : kds.length ≤ 15) (hP : ∀ p, p ∉ m.map (·.1) → P (.ref p) ((p, .dic (mergeD [] kds)) :: m)) : EvP K (tDisp trs) ts m P := fun σ H M S Q q => by
  intro p hp
  have np := M.fresh hp
  refine h p np σ _ (M.add hp ⟨[], upd_same, .nil⟩) (S.mono (ex_add hp)) _ fun ps H2 M2 x2 r2 => ?_
  obtain ⟨ws, e, rw'⟩ := pairs_of r2
  obtain ⟨w0, h0, r0⟩ := M2.cell (k := 0) (l := p) (d := .dic []) rfl
  cases r0
  refine ⟨h0, ws, e, by rw [rw'.len]; exact hl, ?_⟩
  have W := M2.write (k := 0) (l := p) (d := .dic []) (d' := .dic (mergeD [] kds)) (o := .dK (mergeK [] ws)) rfl ⟨_, upd_same, rw'.merge .nil⟩
  exact q _ _ _ _ (hP p np) W ((ex_add hp).trans (x2.trans (ex_write (k := 0) (d' := .dic (mergeD [] kds)) rfl))) (.ref p)
end
end RA
set_option Elab.async false
set_option linter.all false
set_option maxRecDepth 100000
set_option maxHeartbeats 1000000
/-! dicts are walked: locked meanwhile; comprehensions of dicts; lists of what a dict holds -/
namespace RA
open PySem PySem.Spec PyProof.Rows L2 Evl
section
variable {K : PySem.W.Frag} {G : Hp} {ts : TSt} {m : Mem} {d : D} {E : XK} {P : D → Mem → Prop} {PO : Oc → Prop} {ta tb te tv : TE} {tt : TT} {t : TS}
/-- behind a locked statement -/
def unlP (a : Addr) (o : Obj) (ws : List (Key × V)) (kvs : List (Key × D)) (P : Oc → Prop) : Oc → Prop
  | .nx ts m => ∃ k, m[k]? = some (a, .lk o ws kvs) ∧ P (.nx ts (m.set k (a, .dic kvs)))
  | .bk ts m => ∃ k, m[k]? = some (a, .lk o ws kvs) ∧ P (.bk ts (m.set k (a, .dic kvs)))
  | .ct ts m => ∃ k, m[k]? = some (a, .lk o ws kvs) ∧ P (.ct ts (m.set k (a, .dic kvs)))
  | .rt d m => ∃ k, m[k]? = some (a, .lk o ws kvs) ∧ P (.rt d (m.set k (a, .dic kvs)))
  | .ra _ _ _ => False
theorem s_lock {k : Nat} {a : Addr} {kvs : List (Key × D)} (hk : m[k]? = some (a, .dic kvs)) (h : ∀ o ws, ExS K E t ts (m.set k (a, .lk o ws kvs)) (unlP a o ws kvs PO)) : ExS K E (tLock t) ts m PO := fun σ H De M S kk => by
  obtain ⟨ws, hs, hd⟩ := M.cell hk
  refine ⟨a, .dK ws, hs, True.intro, fun od => ?_⟩
  have Ml : MemOk K (upd H a (.frz od (.dK ws))) (m.set k (a, .lk od ws kvs)) := M.write hk ⟨upd_same, hd⟩
  have Xl : Ex (vis m H) (vis (m.set k (a, .lk od ws kvs)) (upd H a (.frz od (.dK ws)))) := ex_write hk
  have back : ∀ {m1 : Mem} {H1 : Hp} {j : Nat}, MemOk K H1 m1 → m1[j]? = some (a, .lk od ws kvs) → H1 a = some (.frz od (.dK ws)) ∧ MemOk K (upd H1 a (.dK ws)) (m1.set j (a, .dic kvs)) ∧ Ex (vis m1 H1) (vis (m1.set j (a, .dic kvs)) (upd H1 a (.dK ws))) := fun {m1 H1 j} M1 hj => by
    obtain ⟨h1, r1⟩ := M1.cell hj
    exact ⟨h1, M1.write hj ⟨_, upd_same, r1⟩, ex_write hj⟩
  refine h od ws σ _ _ Ml (S.mono Xl) fun o p => ?_
  cases o with
  | nx ts1 m1 =>
    obtain ⟨j, hj, p⟩ := p
    intro σ1 H1 M1 x1 S1
    obtain ⟨b1, b2, b3⟩ := back M1 hj
    exact ⟨b1, kk _ p σ1 _ b2 (Xl.trans (x1.trans b3)) (S1.mono b3)⟩
  | bk ts1 m1 =>
    obtain ⟨j, hj, p⟩ := p
    intro σ1 H1 M1 x1 S1
    obtain ⟨b1, b2, b3⟩ := back M1 hj
    exact ⟨b1, kk _ p σ1 _ b2 (Xl.trans (x1.trans b3)) (S1.mono b3)⟩
  | ct ts1 m1 =>
    obtain ⟨j, hj, p⟩ := p
    intro σ1 H1 M1 x1 S1
    obtain ⟨b1, b2, b3⟩ := back M1 hj
    exact ⟨b1, kk _ p σ1 _ b2 (Xl.trans (x1.trans b3)) (S1.mono b3)⟩
  | rt d m1 =>
    obtain ⟨j, hj, p⟩ := p
    intro v H1 M1 x1 r1
    obtain ⟨b1, b2, b3⟩ := back M1 hj
    exact ⟨b1, kk _ p v _ b2 (Xl.trans (x1.trans b3)) (r1.mono b3)⟩
  | ra C fs m1 => exact p.elim
/-- .. an expression -/
theorem ev_lock {k : Nat} {a : Addr} {kvs : List (Key × D)} (hk : m[k]? = some (a, .dic kvs)) (h : ∀ o ws, EvP K te ts (m.set k (a, .lk o ws kvs)) fun d m1 => ∃ j, m1[j]? = some (a, .lk o ws kvs) ∧ P d (m1.set j (a, .dic kvs))) : EvP K (tLockE te) ts m P := fun σ H M S Q q => by
  obtain ⟨ws, hs, hd⟩ := M.cell hk
  refine ⟨a, .dK ws, hs, True.intro, fun od => ?_⟩
  have Ml : MemOk K (upd H a (.frz od (.dK ws))) (m.set k (a, .lk od ws kvs)) := M.write hk ⟨upd_same, hd⟩
  have Xl : Ex (vis m H) (vis (m.set k (a, .lk od ws kvs)) (upd H a (.frz od (.dK ws)))) := ex_write hk
  refine h od ws σ _ Ml (S.mono Xl) _ fun v H1 d1 m1 ⟨j, hj, p⟩ M1 x1 r1 => ?_
  obtain ⟨h1, rr⟩ := M1.cell hj
  exact ⟨h1, q v _ _ _ p (M1.write hj ⟨_, upd_same, rr⟩) (Xl.trans (x1.trans (ex_write hj))) (r1.mono (ex_write hj))⟩
/-- reading while it is locked -/
theorem ev_dgetL {i : Nat} {a : Addr} {o : Obj} {ws : List (Key × V)} {kvs : List (Key × D)} {k : Key} (ha : EvD K ta ts m (.ref a)) (hb : EvD K tb ts m (kD k)) (hk : m[i]? = some (a, .lk o ws kvs)) (hv : valD kvs k = some d) : EvD K (tDGet ta tb) ts m d := fun σ H M S Q q =>
  ha σ H M S _ fun v H1 d' m' ⟨e1, e2⟩ M1 x1 r1 => by
    subst e1; subst e2
    refine hb σ H1 M1 (S.mono x1) _ fun w H2 d' m' ⟨e1, e2⟩ M2 x2 r2 => ?_
    subst e1; subst e2
    obtain ⟨hs, hd⟩ := M2.cell hk
    have hd : KvR K _ ws kvs := hd
    rcases hd.val k with ⟨z, _⟩ | ⟨d1, v1, z1, z2, z3⟩
    · rw [z] at hv; cases hv
    · rw [hv] at z1
      cases z1
      refine ⟨a, v1, r1.ref_of, ?_, q v1 H2 _ _ ⟨rfl, rfl⟩ M2 (x1.trans x2) z3⟩
      rw [den_key r2, ← z2]
      exact .inl ⟨ws, k, .inr ⟨o, hs⟩, rfl, rfl⟩
/-- walks -/
def PmL (a : Addr) (o : Obj) (ws : List (Key × V)) (kvs : List (Key × D)) : Mem → Prop := fun m => ∃ k : Nat, m[k]? = some (a, D.lk o ws kvs)
theorem KvR.get {ws : List (Key × V)} {kvs : List (Key × D)} (r : KvR K G ws kvs) {i : Nat} {k : Key} {d : D} (h : kvs[i]? = some (k, d)) : ∃ v, ws[i]? = some (k, v) ∧ Den K G v d := by
  unfold KvR at r
  induction r generalizing i with
  | nil => simp at h
  | @cons p q ps qs hh t ih =>
    cases i with
    | zero =>
      simp only [List.getElem?_cons_zero, Option.some.injEq] at h
      subst h
      exact ⟨p.2, by simp only [List.getElem?_cons_zero, Option.some.injEq]; exact Prod.ext hh.1 rfl, hh.2⟩
    | succ i =>
      simp only [List.getElem?_cons_succ] at h ⊢
      exact ih h
theorem den_kV (k : Key) : Den K G (kV k) (kD k) := by
  cases k with
  | inl i => exact .int i
  | inr x => exact .str x
theorem wk_keys {k : Nat} {a : Addr} {o : Obj} {ws : List (Key × V)} {kvs : List (Key × D)} (h : EvD K te ts m (.ref a)) (hk : m[k]? = some (a, .lk o ws kvs)) : WkD K (iKeys te) ts m (PmL a o ws kvs) (kvs.map fun p => kD p.1) := fun σ H M S R kk =>
  h σ H M S _ fun v H1 d' m' ⟨e1, e2⟩ M1 x1 r1 => by
    subst e1; subst e2
    obtain ⟨h1, _⟩ := M1.cell hk
    refine ⟨a, o, r1.ref_of, .inl ⟨ws, h1, kk _ H1 M1 x1 fun m2 H2 pm M2 x2 => ?_⟩⟩
    obtain ⟨j, hj⟩ := pm
    obtain ⟨h2, rr⟩ := M2.cell hj
    have rr : KvR K _ ws kvs := rr
    refine ⟨fun i hi => ⟨h2, by rw [rr.len]; simpa using hi⟩, fun i d hi => ?_⟩
    rw [List.getElem?_map] at hi
    cases q : kvs[i]? with
    | none => rw [q] at hi; cases hi
    | some p =>
      rw [q] at hi
      cases hi
      obtain ⟨v, hv, _⟩ := rr.get q
      refine ⟨⟨h2, (List.getElem?_eq_some_iff.mp hv).1⟩, fun x H3 ⟨eH, k', v', g1, g2⟩ => ?_⟩
      subst eH
      rw [hv] at g1
      cases g1
      subst g2
      exact ⟨M2, Ex.refl _, den_kV _⟩
theorem wk_items {k : Nat} {a : Addr} {o : Obj} {ws : List (Key × V)} {kvs : List (Key × D)} (h : EvD K te ts m (.ref a)) (hk : m[k]? = some (a, .lk o ws kvs)) : WkD K (iItems te) ts m (PmL a o ws kvs) (kvs.map fun p => .tup [kD p.1, p.2]) := fun σ H M S R kk =>
  h σ H M S _ fun v H1 d' m' ⟨e1, e2⟩ M1 x1 r1 => by
    subst e1; subst e2
    obtain ⟨h1, _⟩ := M1.cell hk
    refine ⟨a, o, ws, r1.ref_of, h1, kk _ H1 M1 x1 fun m2 H2 pm M2 x2 => ?_⟩
    obtain ⟨j, hj⟩ := pm
    obtain ⟨h2, rr⟩ := M2.cell hj
    have rr : KvR K _ ws kvs := rr
    refine ⟨fun i hi => ⟨h2, by rw [rr.len]; simpa using hi⟩, fun i d hi => ?_⟩
    rw [List.getElem?_map] at hi
    cases q : kvs[i]? with
    | none => rw [q] at hi; cases hi
    | some p =>
      rw [q] at hi
      cases hi
      obtain ⟨v, hv, dv⟩ := rr.get q
      refine ⟨⟨h2, (List.getElem?_eq_some_iff.mp hv).1⟩, fun x H3 ⟨T, k', v', g1, g2, g3, g4⟩ => ?_⟩
      rw [hv] at g1
      cases g1
      subst g2; subst g4
      exact yld_pair M2 g3 (den_kV _) dv

/-- {k: v for ..}: the new dict is in the memory -/
theorem ev_dcM {wi : TI} {g : TG} {tk : TE} {ws : List Nat} {Pm : Mem → Prop} {ds : List D} (hw : WkD K wi ts m Pm ds) (I : Nat → List (Key × D) → Mem → Prop) (h0 : I 0 [] m) (hz : ds.length ≤ 90000) (hp : ∀ i acc m l d, I i acc m → Pm ((l, d) :: m)) (hlen : ∀ i acc m, I i acc m → acc.length ≤ i)
    (hs : ∀ i d acc m1 l, ds[i]? = some d → I i acc m1 → l ∉ m1.map (·.1) → ∃ ts2, GtD K g ws d (wipeT ts ws) ((l, .dic acc) :: m1) ts2 ∧
      EvB K tt ts2 ((l, .dic acc) :: m1) fun b m2 => if b = true then ∃ k, EvP K tk ts2 m2 fun d1 m3 => d1 = kD k ∧ EvP K tv ts2 m3 fun d' m4 => ∃ m5, m4 = (l, .dic acc) :: m5 ∧ I (i + 1) (putKD acc k d') m5
        else ∃ m4, m2 = (l, .dic acc) :: m4 ∧ I (i + 1) acc m4)
    (hd : ∀ acc m1 l, I ds.length acc m1 → l ∉ m1.map (·.1) → P (.ref l) ((l, .dic acc) :: m1)) : EvP K (tDc wi g tt tk tv ws) ts m P := fun σ H M S Q q => by
  refine hw σ H M S _ fun J H1 M1 x1 hJ => fun Dl hDl => ?_
  have x1' : Ex (vis m H) (vis m H1) := x1
  refine ⟨fun i n H' => n = ds.length - i ∧ i ≤ ds.length ∧ ∃ acc m', I i acc m' ∧ MemOk K H' ((Dl, .dic acc) :: m') ∧ Ex (vis m H1) (vis ((Dl, .dic acc) :: m') H'), ⟨_, rfl, Nat.zero_le _, [], m, h0, M1.add hDl ⟨[], upd_same, .nil⟩, ex_add hDl⟩, ?_⟩
  rintro i n H' ⟨rfl, hi, acc, m', hI, M', x'⟩
  obtain ⟨js, jg⟩ := hJ _ H' (hp _ _ _ Dl _ hI) M' x'
  have nDl : Dl ∉ m'.map (·.1) := by
    have nd := M'.nd
    simp only [List.map_cons, List.nodup_cons] at nd
    exact nd.1
  by_cases c : i = ds.length
  · left
    subst c
    exact ⟨js _ (Nat.le_refl _), q _ H' _ _ (hd _ _ _ hI nDl) M' (x1'.trans x') (.ref Dl)⟩
  · right
    have hl : i < ds.length := by omega
    have hget : ds[i]? = some ds[i] := List.getElem?_eq_getElem hl
    obtain ⟨hgo, hy⟩ := jg i _ hget
    obtain ⟨ts2, hg, hb⟩ := hs i _ acc m' Dl hget hI nDl
    refine ⟨hgo, fun H2 => ∃ acc' m3, I (i + 1) acc' m3 ∧ MemOk K H2 ((Dl, .dic acc') :: m3) ∧ Ex (vis m H1) (vis ((Dl, .dic acc') :: m3) H2), ?_, ?_⟩
    · rintro H2 ⟨acc', m3, h3, M3, x3⟩
      exact ⟨ds.length - (i + 1), by omega, rfl, by omega, acc', m3, h3, M3, x3⟩
    · intro x H3 hx
      obtain ⟨M3, x3, r3⟩ := hy x H3 hx
      have Sw : StOk K (vis ((Dl, .dic acc) :: m') H3) (L2.wipe σ ws) (wipeT ts ws) := (S.mono (x1'.trans (x'.trans x3))).wipe ws
      refine hg x _ H3 M3 r3 Sw _ fun σ4 e4 S4 => ⟨by rw [e4, wipe_idem], ?_⟩
      refine hb σ4 H3 M3 S4 _ fun b H5 m5 p M5 x5 => ?_
      cases b with
      | false =>
        rw [if_neg Bool.false_ne_true] at p ⊢
        obtain ⟨m4, rfl, h4⟩ := p
        exact ⟨acc, m4, h4, M5, x'.trans (x3.trans x5)⟩
      | true =>
        rw [if_pos rfl] at p ⊢
        obtain ⟨k, p⟩ := p
        refine p σ4 H5 M5 (S4.mono x5) _ fun v H6 d6 m6 ⟨ek, p2⟩ M6 x6 r6 => ?_
        subst ek
        refine p2 σ4 H6 M6 (S4.mono (x5.trans x6)) _ fun u H7 d7 m7 ⟨m8, em, h8⟩ M7 x7 r7 => ?_
        subst em
        obtain ⟨vs, hv, hr⟩ := M7.cell (k := 0) (l := Dl) (d := .dic acc) rfl
        have hr : KvR K _ vs acc := hr
        have lacc := hlen _ _ _ hI
        refine ⟨vs, k, den_key r6, hv, sz_lt (by rw [hr.len]; omega), putKD acc k d7, m8, h8, ?_, ?_⟩
        · exact M7.write (k := 0) (d := .dic acc) (d' := .dic (putKD acc k d7)) rfl ⟨_, upd_same, hr.put k r7⟩
        · exact x'.trans (x3.trans (x5.trans (x6.trans (x7.trans (ex_write (k := 0) (d := .dic acc) (d' := .dic (putKD acc k d7)) rfl)))))
end
end RA
set_option Elab.async false
set_option linter.all false
set_option maxRecDepth 100000
set_option maxHeartbeats 1000000
/-! more operations: lists and tuples are joined, lists of dicts' keys -/
namespace RA
open PySem PySem.Spec PyProof.Rows L2 Evl
def rCatL (K : PySem.W.Frag) : R2 := fun x y H Q => ∃ l b xs zs, x = .ref l ∧ y = .ref b ∧ SqL K H l xs ∧ SqL K H b zs ∧ xs.length + zs.length ≤ sizeLine ∧ ∀ p, H p = none → Q (.ref p) (upd H p (.lst (xs ++ zs)))
theorem op_catL {X : Cx} : OpR X (binaryOp .Add) (rCatL X.K) := by
  intro pins s σ H x y v u Q I rx ry h
  obtain ⟨l, b, xs, zs, rfl, rfl, hH, hB, hz, q⟩ := h
  cases rx
  cases ry
  obtain ⟨its, r, ⟨⟨cls, dd, data, sl⟩, n, ho, hc, hd, hdat⟩, _⟩ := I.list hH
  obtain ⟨its2, r2, ⟨⟨cls2, dd2, data2, sl2⟩, n2, ho2, hc2, hd2, hdat2⟩, _⟩ := I.list hB
  simp only at hc hd hdat hc2 hd2 hdat2
  subst hc hd hdat hc2 hd2 hdat2
  have ea : its.toArray ++ its2.toArray = (its ++ its2).toArray := by simp
  refine concat_meets ⟨_, ho, rfl⟩ ⟨_, ho2, rfl⟩ noFill_list_add seq_list_add PySem.F.slot_list_add PySem.F.entry_list_add (PySem.F.args_list_add_2 _ _) (list_addW l b its.toArray its2.toArray n n2 none none sl sl2 (by
    have h1 := r.length
    have h2 := r2.length
    simp only [List.size_toArray]; omega)) ⟨ho, ho2, ?_⟩
  rw [ea]
  exact ⟨.ref _, _, I.lnew (t' := s.toks) (r.append r2) (by rw [List.length_append]; omega), rfl, q _ I.fresh⟩
section
variable {K : PySem.W.Frag} {ts : TSt} {m : Mem} {d : D} {ds es : List D} {P : D → Mem → Prop} {ta tb te : TE} {tl : TA}
theorem od_catL (hz : ds.length + es.length ≤ 100000) : OpD K (rCatL K) (.lst ds) (.lst es) m (.lst (ds ++ es)) := fun v w H M r1 r2 Q q => by
  obtain ⟨a, xs, rfl, hs, hd⟩ := r1.lst_of
  obtain ⟨b, ys, rfl, hs2, hd2⟩ := r2.lst_of
  refine ⟨a, b, xs, ys, rfl, rfl, sqL_vis hs, sqL_vis hs2, sizeL (by rw [hd.length, hd2.length]; exact hz), fun p hp => ?_⟩
  exact q _ _ (M.new hp) (ex_new hp) (.lst (.inl (.inl (vis_new M hp))) ((hd.append hd2).mono (ex_new hp)))
theorem ev_catL (ha : EvD K ta ts m (.lst ds)) (hb : EvD K tb ts m (.lst es)) (hz : ds.length + es.length ≤ 100000) : EvD K (tOp (rCatL K) ta tb) ts m (.lst (ds ++ es)) := ev_op ha hb (od_catL hz)
theorem sqT_vis {H : Hp} {a : Addr} {xs : List V} (h : SqT K (vis m H) a xs) : SqT K H a xs := ex_t vis_ex h
theorem od_catA (hz : ds.length + es.length ≤ 100000) : OpD K (rCatA K) (.tup ds) (.tup es) m (.tup (ds ++ es)) := fun v w H M r1 r2 Q q => by
  obtain ⟨a, xs, rfl, hs, hd⟩ := r1.tup_of
  obtain ⟨b, ys, rfl, hs2, hd2⟩ := r2.tup_of
  refine ⟨a, b, xs, ys, rfl, rfl, sqT_vis hs, sqT_vis hs2, sizeL (by rw [hd.length, hd2.length]; exact hz), fun e => ?_, fun _ e => ?_, fun _ _ p hp => ?_⟩
  · subst e; cases hd; exact q _ _ M (Ex.refl _) (.tup hs2 hd2)
  · subst e; cases hd2; rw [List.append_nil] at q; exact q _ _ M (Ex.refl _) (.tup hs hd)
  · exact q _ _ (M.new hp) (ex_new hp) (.tup (.inl (.inl (vis_new M hp))) ((hd.append hd2).mono (ex_new hp)))
theorem ev_catA (ha : EvD K ta ts m (.tup ds)) (hb : EvD K tb ts m (.tup es)) (hz : ds.length + es.length ≤ 100000) : EvD K (tOp (rCatA K) ta tb) ts m (.tup (ds ++ es)) := ev_op ha hb (od_catA hz)
/-- list(d) -/
theorem keys_dens {H : Hp} : ∀ {ws : List (Key × V)} {kvs : List (Key × D)}, KvR K H ws kvs → Dens K H (ws.map fun kv => kV kv.1) (kvs.map fun p => kD p.1) := by
  intro ws kvs r
  unfold KvR at r
  induction r with
  | nil => exact .nil
  | @cons p q ps qs h t ih =>
    rw [List.map_cons, List.map_cons, h.1]
    exact .cons (den_kV _) ih
theorem cb_listD {k : Nat} {a : Addr} {kvs : List (Key × D)} (hk : m[k]? = some (a, .dic kvs)) : CbD K rListD [.ref a] m (.lst (kvs.map fun p => kD p.1)) := fun vs H M r Q q => by
  obtain ⟨v, rfl, hv⟩ := r.one
  obtain ⟨ws, hs, hd⟩ := M.cell hk
  have hd : KvR K _ ws kvs := hd
  refine ⟨a, ws, by rw [hv.ref_of], hs, fun p hp => ?_⟩
  exact q _ _ (M.new hp) (ex_new hp) (.lst (.inl (.inl (vis_new M hp))) ((keys_dens hd).mono (ex_new hp)))

theorem rg_dens {H : Hp} (lo hi : Int) : Dens K H (rgV lo hi) (rngD lo hi) := by
  unfold rgV rngD
  generalize List.range (hi - lo).toNat = l
  induction l with
  | nil => exact .nil
  | cons a l ih => exact .cons (.int _) ih
/-- list(range(lo, hi)) -/
theorem ev_listRg2 {lo hi : Int} (ha : EvD K ta ts m (.int lo)) (hb : EvD K tb ts m (.int hi)) (h : -(2 ^ 62) ≤ lo ∧ lo < 2 ^ 62 ∧ -(2 ^ 62) ≤ hi ∧ hi < 2 ^ 62 ∧ (hi - lo).toNat ≤ 2 ^ 24) : EvD K (tLstRg (tRg2 ta tb)) ts m (.lst (rngD lo hi)) := fun σ H M S Q q =>
  ha σ H M S _ fun v H1 d' m' ⟨e1, e2⟩ M1 x1 r1 => by
    subst e1; subst e2
    refine hb σ H1 M1 (S.mono x1) _ fun w H2 d' m' ⟨e1, e2⟩ M2 x2 r2 => ?_
    subst e1; subst e2
    refine ⟨lo, hi, r1.int_of, r2.int_of, h, fun p hp => ?_⟩
    exact q _ _ _ _ ⟨rfl, rfl⟩ (M2.new hp) (x1.trans (x2.trans (ex_new hp))) (.lst (.inl (.inl (vis_new M2 hp))) (rg_dens lo hi))
def itemsD (kvs : List (Key × D)) : List D := kvs.map fun p => .tup [kD p.1, p.2]
theorem paired_impM {α β : Type} {F F' : α → β → Prop} : ∀ {l : List α} {r : List β}, (∀ a ∈ l, ∀ b, F a b → F' a b) → Paired F l r → Paired F' l r
  | _, _, _, .nil => .nil
  | _, _, f, .cons h t => .cons (f _ List.mem_cons_self _ h) (paired_impM (fun a ha => f a (List.mem_cons_of_mem _ ha)) t)
theorem items_dens {H : Hp} : ∀ {kvs : List (Key × D)} {ws : List (Key × V)} {as : List Addr}, KvR K H ws kvs → Paired (fun (t : Addr) (q : Key × V) => H t = some (.tup [kV q.1, q.2])) as ws → Dens K H (as.map V.ref) (itemsD kvs)
  | [], _, _, r, p => by cases r; cases p; exact .nil
  | q :: kvs, _, _, r, p => by
    cases r with
    | cons h t =>
      cases p with
      | cons h0 hr =>
        refine .cons (.tup (.inl (.inl h0)) (.cons ?_ (.cons h.2 .nil))) (items_dens t hr)
        rw [h.1]; exact den_kV _
/-- list(d.items()) -/
theorem ev_listItems {k : Nat} {a : Addr} {kvs : List (Key × D)} (h : EvD K te ts m (.ref a)) (hk : m[k]? = some (a, .dic kvs)) : EvD K (LiI.tListItems te) ts m (.lst (itemsD kvs)) := fun σ H M S Q q =>
  h σ H M S _ fun v H1 d' m' ⟨e1, e2⟩ M1 x1 r1 => by
    subst e1; subst e2
    obtain ⟨ws, hs, hd⟩ := M1.cell hk
    have hd : KvR K _ ws kvs := hd
    refine ⟨a, ws, r1.ref_of, hs, fun H' p tls eH hp hts hpt hl hP => ?_⟩
    have E1 : Ex H1 H' := eH
    have M' := M1.ex E1
    have X' := Ex.vis (m := m') E1
    have np := M1.fresh hp
    refine q _ H' _ _ ⟨rfl, rfl⟩ M' (x1.trans X') (.lst (.inl (.inl (by rw [vis_out np]; exact hl))) (items_dens (hd.mono X') (paired_impM (fun t ht b hb => ?_) hP)))
    rw [vis_out (M1.fresh (hts t ht))]; exact hb
def rDictP (K : PySem.W.Frag) : List V → Hp → VK → Prop := fun xs H Q => ∃ (a : Addr) (ps : List Addr) (kvs : List (Key × V)), xs = [.ref a] ∧ SqL K H a (ps.map V.ref) ∧ Paired (fun p kv => SqT K H p [kV kv.1, kv.2]) ps kvs ∧
    ∀ p, H p = none → Q (.ref p) (upd H p (.dK (mergeK [] kvs)))
theorem call_dictPr {X : Cx} (hcalm : X.calm = true) : CallR X (.type "dict") (rDictP X.K) := call_dictP hcalm
theorem pairs_lst {H : Hp} : ∀ {kvs : List (Key × D)} {xs : List V}, Dens K H xs (itemsD kvs) → ∃ (ps : List Addr) (ws : List (Key × V)), xs = ps.map V.ref ∧ Paired (fun p kv => SqT K H p [kV kv.1, kv.2]) ps ws ∧ KvR K H ws kvs
  | [], _, r => by cases r; exact ⟨[], [], rfl, .nil, .nil⟩
  | q :: kvs, _, r => by
    cases r with
    | cons h t =>
      obtain ⟨ps, ws, e, h1, h2⟩ := pairs_lst t
      obtain ⟨a, ys, rfl, hs, hd⟩ := h.tup_of
      obtain ⟨v, w, rfl, hv, hw⟩ := hd.two
      refine ⟨a :: ps, (q.1, w) :: ws, by rw [List.map_cons, ← e], .cons ?_ h1, .cons ⟨rfl, hw⟩ h2⟩
      rw [← den_key hv]; exact hs
/-- dict(a list of pairs) -/
theorem ev_dictP {kvs : List (Key × D)} (h : EvL K tl ts m [.lst (itemsD kvs)]) (hP : ∀ p, p ∉ m.map (·.1) → P (.ref p) ((p, .dic (mergeD [] kvs)) :: m)) : EvP K (tCB (rDictP K) tl) ts m P := fun σ H M S Q q =>
  h σ H M S _ fun vs H1 ds' m' ⟨e1, e2⟩ M1 x1 r1 => by
    subst e1; subst e2
    obtain ⟨v, rfl, hv⟩ := r1.one
    obtain ⟨a, xs, rfl, hs, hd⟩ := hv.lst_of
    obtain ⟨ps, ws, rfl, h1, h2⟩ := pairs_lst hd
    refine ⟨a, ps, ws, rfl, sqL_vis hs, RA.Paired.imp (fun _ _ z => sqT_vis z) h1, fun p hp => ?_⟩
    have c : KvR K (vis m' H1) (mergeK [] ws) (mergeD [] kvs) := h2.merge .nil
    exact q _ _ _ _ (hP p (M1.fresh hp)) (M1.add hp ⟨_, upd_same, c⟩) (x1.trans (ex_add hp)) (.ref p)
end
end RA
set_option Elab.async false
set_option linter.all false
set_option maxRecDepth 100000
set_option maxHeartbeats 1000000
/-! a def that is picked out of a list is called -/
namespace RA
open PySem PySem.Spec PyProof.Rows L2 Evl
def tCallSel (fs : List (Addr × Sp)) (E : XK) (tf : TE) (t : TA) : TE := fun σ H Q => tf σ H fun y H1 => ∃ f sp, (f, sp) ∈ fs ∧ y = .ref f ∧ t σ H1 fun vs H2 => sp vs H2 Q E
theorem pe_callSel {X : Cx} {k : Nat} {fs : List (Addr × Sp)} {E : XK} {fe e : Expr} {es : List Expr} {tf : TE} {t : TA} {pos : Pos} (hf : PE X fe tf) (F : ∀ f sp, (f, sp) ∈ fs → FnR X.prog X.w X.K X.mg X.base (L2.CX X.prog X.w) k f sp ∧ PySem.W.keepIn X.K (.ref f) = true)
    (hr : Room k X.A) (hx : Passes (L2.CX X.prog X.w) X E) (ha : PA X (e :: es) t)
    (ht : eval (.Call fe (e :: es) [] pos) X.env = (do callWith pos (← eval fe X.env) [] (backTo pos (starEach (e :: es) X.env)) (backToKw pos (keywordEach [] X.env))) := by rfl)
    (he : starEach (e :: es) X.env = (false, eval e X.env) :: starEach es X.env := by rfl) (hpl : (backTo pos (starEach es X.env)).any (·.1) = false := by rfl) : PE X (.Call fe (e :: es) [] pos) (tCallSel fs E tf t) := by
  refine ⟨fun pins s σ H Q I h => ?_⟩
  refine Call_ (thn (hf.run pins s σ H _ I h) fun u s1 ⟨y, H1, I1, ry, f, sp, hm, ey, q⟩ => ?_) ht
  subst ey
  obtain rfl : u = Value.ref f := ry
  obtain ⟨F1, hk⟩ := F _ _ hm
  refine PySem.W.callWith_K (h₀ := X.base) I1.ok.mod.kin hk (thn (ha.run pos pins s1 σ H1 _ I1 q) fun us s2 ⟨vs, H2, I2, r, q⟩ => ⟨I2.kIn, ?_⟩) he hpl
  exact wpAny_call (run_fnR F1 hr hx I2 r q)
/-- a def that stands, by its address -/
theorem HasF.raw {P : Program} {w : World} {K : PySem.W.Frag} {mg : Str → Option Value} {base : Heap} {x : Str} {k : Nat} {ps : List Str} {sp : Sp} {f : Addr} (F : HasF P w K mg base x k ps sp) (hf : mg x = some (.ref f)) : FnR P w K mg base (L2.CX P w) k f sp ∧ PySem.W.keepIn K (.ref f) = true := by
  obtain ⟨f', fd, h1, h2, h3, h4⟩ := F.ex
  rw [hf] at h1
  cases h1
  exact ⟨(FnOk.raw h4 h3 .nil).imp fun vs H Q E h => by simpa using h, h2⟩
section
variable {K : PySem.W.Frag} {R : Rl} {E : XK} {ts : TSt} {m : Mem} {P : D → Mem → Prop} {PX : Addr → List (Str × D) → Mem → Prop} {tf : TE} {tl : TA} {fs : List (Addr × Sp)}
theorem ev_callSelX {f : Addr} (hf : EvD K tf ts m (.ref f)) (hm : (f, SpD K R) ∈ fs) (ha : EvA K tl ts m fun ds m1 => R ds m1 (Ends2 P PX)) : EvX K E (tCallSel fs E tf tl) ts m P PX := fun σ H M S Q q qx =>
  hf σ H M S _ fun v H1 d' m' ⟨e1, e2⟩ M1 x1 r1 => by
    subst e1; subst e2
    refine ⟨f, SpD K R, hm, r1.ref_of, ?_⟩
    have z := ev_callX ha σ H1 M1 (S.mono x1) Q (fun v H' d m' p M' x' r' => q v H' d m' p M' (x1.trans x') r') fun cls dd H' C fs m' p M' x' er => qx cls dd H' C fs m' p M' (x1.trans x') (er.back x1)
    simp only [tCall, List.append_nil] at z
    exact z
end
theorem sel2 {P : Program} {w : World} {K : PySem.W.Frag} {mg : Str → Option Value} {base : Heap} {x1 x2 : Str} {j1 j2 : Nat} {ps1 ps2 : List Str} {sp1 sp2 : Sp} {f1 f2 : Addr} (F1 : HasF P w K mg base x1 j1 ps1 sp1) (h1 : mg x1 = some (.ref f1)) (F2 : HasF P w K mg base x2 j2 ps2 sp2) (h2 : mg x2 = some (.ref f2)) :
    ∀ f sp, (f, sp) ∈ [(f1, sp1), (f2, sp2)] → FnR P w K mg base (L2.CX P w) (max j1 j2) f sp ∧ PySem.W.keepIn K (.ref f) = true := by
  intro f sp hm
  simp only [List.mem_cons, List.not_mem_nil, or_false, Prod.mk.injEq] at hm
  rcases hm with ⟨rfl, rfl⟩ | ⟨rfl, rfl⟩
  · exact ⟨(F1.raw h1).1.mono (Nat.le_max_left _ _), (F1.raw h1).2⟩
  · exact ⟨(F2.raw h2).1.mono (Nat.le_max_right _ _), (F2.raw h2).2⟩
end RA
set_option Elab.async false
set_option linter.all false
set_option maxRecDepth 100000
set_option maxHeartbeats 4000000
/-! The defs' readings (printed by gen.py). -/
namespace RA
open PySem PySem.Spec PyProof.Rows L2 Evl
/-- added: 0 one, 1 other -/
def n_added : List Str := ["one", "other"]
def t_added (G : Gam) (E : XK) : TS :=
  (tRet (tCall (SpD G.K (R_fraction G)) [] E (tCons (tOp (rI0 fun i j => .int (i + j)) (tOp (rI CMulW fun i j => .int (i * j)) (tOp (rIxT G.K) (tVar 0) (tC (.int 0))) (tOp (rIxT G.K) (tVar 1) (tC (.int 1)))) (tOp (rI CMulW fun i j => .int (i * j)) (tOp (rIxT G.K) (tVar 1) (tC (.int 0))) (tOp (rIxT G.K) (tVar 0) (tC (.int 1))))) (tCons (tOp (rI CMulW fun i j => .int (i * j)) (tOp (rIxT G.K) (tVar 0) (tC (.int 1))) (tOp (rIxT G.K) (tVar 1) (tC (.int 1)))) tNil))))
/-- less: 0 one, 1 other -/
def n_less : List Str := ["one", "other"]
def t_less (G : Gam) (E : XK) : TS :=
  (tRet (tCall (SpD G.K (R_fraction G)) [] E (tCons (tOp (rI0 fun i j => .int (i - j)) (tOp (rI CMulW fun i j => .int (i * j)) (tOp (rIxT G.K) (tVar 0) (tC (.int 0))) (tOp (rIxT G.K) (tVar 1) (tC (.int 1)))) (tOp (rI CMulW fun i j => .int (i * j)) (tOp (rIxT G.K) (tVar 1) (tC (.int 0))) (tOp (rIxT G.K) (tVar 0) (tC (.int 1))))) (tCons (tOp (rI CMulW fun i j => .int (i * j)) (tOp (rIxT G.K) (tVar 0) (tC (.int 1))) (tOp (rIxT G.K) (tVar 1) (tC (.int 1)))) tNil))))
/-- product: 0 one, 1 other -/
def n_product : List Str := ["one", "other"]
def t_product (G : Gam) (E : XK) : TS :=
  (tRet (tCall (SpD G.K (R_fraction G)) [] E (tCons (tOp (rI CMulW fun i j => .int (i * j)) (tOp (rIxT G.K) (tVar 0) (tC (.int 0))) (tOp (rIxT G.K) (tVar 1) (tC (.int 0)))) (tCons (tOp (rI CMulW fun i j => .int (i * j)) (tOp (rIxT G.K) (tVar 0) (tC (.int 1))) (tOp (rIxT G.K) (tVar 1) (tC (.int 1)))) tNil))))
/-- is_less: 0 one, 1 other -/
def n_is_less : List Str := ["one", "other"]
def t_is_less (G : Gam) (E : XK) : TS :=
  (tRet (tOp (rI0 fun i j => .bl (decide (i < j))) (tOp (rI CMulW fun i j => .int (i * j)) (tOp (rIxT G.K) (tVar 0) (tC (.int 0))) (tOp (rIxT G.K) (tVar 1) (tC (.int 1)))) (tOp (rI CMulW fun i j => .int (i * j)) (tOp (rIxT G.K) (tVar 1) (tC (.int 0))) (tOp (rIxT G.K) (tVar 0) (tC (.int 1))))))
/-- over: 0 one, 1 other -/
def n_over : List Str := ["one", "other"]
def t_over (G : Gam) (E : XK) : TS :=
  (tRet (tCall (SpD G.K (R_fraction G)) [] E (tCons (tOp (rI CMulW fun i j => .int (i * j)) (tOp (rIxT G.K) (tVar 0) (tC (.int 0))) (tOp (rIxT G.K) (tVar 1) (tC (.int 1)))) (tCons (tOp (rI CMulW fun i j => .int (i * j)) (tOp (rIxT G.K) (tVar 0) (tC (.int 1))) (tOp (rIxT G.K) (tVar 1) (tC (.int 0)))) tNil))))
/-- raised: 0 one, 1 times, 2 top, 3 bottom, 4 turn -/
def n_raised : List Str := ["one", "times", "top", "bottom", "turn"]
def t_raised (G : Gam) (E : XK) : TS :=
  (tSeq (tAsg (tTup (tCons (tC (.int 1)) (tCons (tC (.int 1)) tNil))) (gTup G.K 2 (gCons (gName 2) (gCons (gName 3) gNil))))
    (tSeq (tFor (iRng1 (tCons (tVar 1) tNil)) (gName 4) (tPar 2 3 (tCons (tOp (rI CMulW fun i j => .int (i * j)) (tVar 2) (tOp (rIxT G.K) (tVar 0) (tC (.int 0)))) (tCons (tOp (rI CMulW fun i j => .int (i * j)) (tVar 3) (tOp (rIxT G.K) (tVar 0) (tC (.int 1)))) tNil))))
    (tRet (tCall (SpD G.K (R_fraction G)) [] E (tCons (tVar 2) (tCons (tVar 3) tNil))))))
/-- powers: 0 coin, 1 j, 2 k -/
def n_powers : List Str := ["coin", "j", "k"]
def t_powers (G : Gam) (E : XK) : TS :=
  (tRet (tTup (tCons (tCall (SpD G.K (R_raised G)) [] E (tCons (tFld G.K (tVar 0) "ahead") (tCons (tOp (rI0 fun i j => .int (i - j)) (tVar 1) (tC (.int 1))) tNil))) (tCons (tCall (SpD G.K (R_raised G)) [] E (tCons (tFld G.K (tVar 0) "behind") (tCons (tOp (rI0 fun i j => .int (i - j)) (tVar 2) (tC (.int 1))) tNil))) tNil))))
/-- ends_of: 0 x, 1 y -/
def n_ends_of : List Str := ["x", "y"]
def t_ends_of (G : Gam) (E : XK) : TS :=
  (tRet (tCall (SpD G.K (R_less G)) [] E (tCons (tCall (SpD G.K (R_added G)) [] E (tCons (tVar 0) (tCons (tVar 1) tNil))) (tCons (tCall (SpD G.K (R_product G)) [] E (tCons (tVar 0) (tCons (tVar 1) tNil))) tNil))))
/-- begun: 0 coin, 1 j, 2 k, 3 x, 4 y, 5 first -/
def n_begun : List Str := ["coin", "j", "k", "x", "y", "first"]
def t_begun (G : Gam) (E : XK) : TS :=
  (tSeq (tAsg (tCall (SpD G.K (R_powers G)) [] E (tCons (tVar 0) (tCons (tVar 1) (tCons (tVar 2) tNil)))) (gTup G.K 2 (gCons (gName 3) (gCons (gName 4) gNil))))
    (tSeq (tAsg (tCall (SpD G.K (R_over G)) [] E (tCons (tVar 3) (tCons (tCall (SpD G.K (R_ends_of G)) [] E (tCons (tVar 3) (tCons (tVar 4) tNil))) tNil))) (gName 5))
    (tRet (tTup (tCons (tVar 5) (tCons (tCall (SpD G.K (R_product G)) [] E (tCons (tCall (SpD G.K (R_less G)) [] E (tCons (tC (.ref G.vONE)) (tCons (tVar 4) tNil))) (tCons (tVar 5) tNil))) tNil))))))
/-- chance_by: 0 coin, 1 j, 2 k, 3 state, 4 head, 5 tail, 6 whole -/
def n_chance_by : List Str := ["coin", "j", "k", "state", "head", "tail", "whole"]
def t_chance_by (G : Gam) (E : XK) : TS :=
  (tSeq (tAsg (tCall (SpD G.K (R_begun G)) [] E (tCons (tVar 0) (tCons (tVar 1) (tCons (tVar 2) tNil)))) (gTup G.K 2 (gCons (gName 4) (gCons (gName 5) gNil))))
    (tSeq (tIfS (tTest (tOp rEq (tVar 3) (tC (.int 0)))) (tRet (tCall (SpD G.K (R_added G)) [] E (tCons (tCall (SpD G.K (R_product G)) [] E (tCons (tFld G.K (tVar 0) "ahead") (tCons (tVar 4) tNil))) (tCons (tCall (SpD G.K (R_product G)) [] E (tCons (tFld G.K (tVar 0) "behind") (tCons (tVar 5) tNil))) tNil)))) tNext)
    (tSeq (tIfS (tTest (tOp (rI0 fun i j => .bl (decide (j < i))) (tVar 3) (tC (.int 0)))) (tSeq (tAsg (tCall (SpD G.K (R_raised G)) [] E (tCons (tFld G.K (tVar 0) "ahead") (tCons (tOp (rI0 fun i j => .int (i - j)) (tVar 1) (tVar 3)) tNil))) (gName 6))
    (tRet (tCall (SpD G.K (R_added G)) [] E (tCons (tVar 6) (tCons (tCall (SpD G.K (R_product G)) [] E (tCons (tCall (SpD G.K (R_less G)) [] E (tCons (tC (.ref G.vONE)) (tCons (tVar 6) tNil))) (tCons (tVar 5) tNil))) tNil))))) tNext)
    (tRet (tCall (SpD G.K (R_product G)) [] E (tCons (tCall (SpD G.K (R_less G)) [] E (tCons (tC (.ref G.vONE)) (tCons (tCall (SpD G.K (R_raised G)) [] E (tCons (tFld G.K (tVar 0) "behind") (tCons (tOp (rI0 fun i j => .int (i + j)) (tVar 2) (tVar 3)) tNil))) tNil))) (tCons (tVar 4) tNil)))))))
/-- chance: 0 coin, 1 j, 2 k, 3 state -/
def n_chance : List Str := ["coin", "j", "k", "state"]
def t_chance (G : Gam) (E : XK) : TS :=
  (tSeq (tDrop (tCall (SpD G.K (R_need_runs G)) [] E (tCons (tVar 1) (tCons (tVar 2) (tCons (tC (.int 40)) tNil)))))
    (tSeq (tDrop (tCall (SpD G.K (R_need_state G)) [] E (tCons (tVar 1) (tCons (tVar 2) (tCons (tVar 3) tNil)))))
    (tRet (tCall (SpD G.K (R_chance_by G)) [] E (tCons (tVar 0) (tCons (tVar 1) (tCons (tVar 2) (tCons (tVar 3) tNil))))))))
/-- need_run: 0 value, 1 most -/
def n_need_run : List Str := ["value", "most"]
def t_need_run (G : Gam) (E : XK) : TS :=
  (tIfS (tNot (tB (tCall (SpD G.K (R_is_within G)) [] E (tCons (tVar 0) (tCons (tC (.int 1)) (tCons (tVar 1) tNil)))))) (tRz (tMkE G.cBadRun (spE1 G.cBadRun "value") (tCons (tVar 0) tNil)) E) tNext)
/-- need_runs: 0 j, 1 k, 2 most -/
def n_need_runs : List Str := ["j", "k", "most"]
def t_need_runs (G : Gam) (E : XK) : TS :=
  (tSeq (tDrop (tCall (SpD G.K (R_need_run G)) [] E (tCons (tVar 0) (tCons (tVar 2) tNil))))
    (tDrop (tCall (SpD G.K (R_need_run G)) [] E (tCons (tVar 1) (tCons (tVar 2) tNil)))))
/-- need_state: 0 j, 1 k, 2 state -/
def n_need_state : List Str := ["j", "k", "state"]
def t_need_state (G : Gam) (E : XK) : TS :=
  (tIfS (tNot (tB (tCall (SpD G.K (R_is_within G)) [] E (tCons (tVar 2) (tCons (tOp (rI0 fun i j => .int (i - j)) (tC (.int 1)) (tVar 1)) (tCons (tOp (rI0 fun i j => .int (i - j)) (tVar 0) (tC (.int 1))) tNil)))))) (tRz (tMkE G.cBadState (spE0 G.cBadState) tNil) E) tNext)
/-- _law_frac: 0 _law_number, 1 _law_parts, 2 _law_one, 3 _law_mate -/
def n__law_frac : List Str := ["_law_number", "_law_parts", "_law_one", "_law_mate"]
def t__law_frac (G : Gam) (E : XK) : TS :=
  (tSeq (tPar 2 3 (tCons (tCB rAbs (tCons (tVar 0) tNil)) (tCons (tVar 1) tNil)))
    (tSeq (tWhile (tTest (tOp (rI0 fun i j => .bl (decide (j < i))) (tVar 3) (tC (.int 0)))) (tPar 2 3 (tCons (tVar 3) (tCons (tOp (rI (fun _ j => 0 < j) fun i j => .int (i % j)) (tVar 2) (tVar 3)) tNil))))
    (tRet (tTup (tCons (tOp (rI CDivW fun i j => .int (i / j)) (tVar 0) (tVar 2)) (tCons (tOp (rI CDivW fun i j => .int (i / j)) (tVar 1) (tVar 2)) tNil))))))
/-- _law_sum: 0 _law_one, 1 _law_mate -/
def n__law_sum : List Str := ["_law_one", "_law_mate"]
def t__law_sum (G : Gam) (E : XK) : TS :=
  (tRet (tCall (SpD G.K (R__law_frac G)) [] E (tCons (tOp (rI0 fun i j => .int (i + j)) (tOp (rI CMulW fun i j => .int (i * j)) (tOp (rIxT G.K) (tVar 0) (tC (.int 0))) (tOp (rIxT G.K) (tVar 1) (tC (.int 1)))) (tOp (rI CMulW fun i j => .int (i * j)) (tOp (rIxT G.K) (tVar 1) (tC (.int 0))) (tOp (rIxT G.K) (tVar 0) (tC (.int 1))))) (tCons (tOp (rI CMulW fun i j => .int (i * j)) (tOp (rIxT G.K) (tVar 0) (tC (.int 1))) (tOp (rIxT G.K) (tVar 1) (tC (.int 1)))) tNil))))
/-- _law_times: 0 _law_one, 1 _law_mate -/
def n__law_times : List Str := ["_law_one", "_law_mate"]
def t__law_times (G : Gam) (E : XK) : TS :=
  (tRet (tCall (SpD G.K (R__law_frac G)) [] E (tCons (tOp (rI CMulW fun i j => .int (i * j)) (tOp (rIxT G.K) (tVar 0) (tC (.int 0))) (tOp (rIxT G.K) (tVar 1) (tC (.int 0)))) (tCons (tOp (rI CMulW fun i j => .int (i * j)) (tOp (rIxT G.K) (tVar 0) (tC (.int 1))) (tOp (rIxT G.K) (tVar 1) (tC (.int 1)))) tNil))))
/-- _law_shares: 0 _law_d -/
def n__law_shares : List Str := ["_law_d"]
def t__law_shares (G : Gam) (E : XK) : TS :=
  (tRet (tLst (tCons (tCall (SpD G.K (R__law_frac G)) [] E (tCons (tOp (rIxT G.K) (tVar 0) (tC (.int 0))) (tCons (tOp (rI0 fun i j => .int (i + j)) (tOp (rIxT G.K) (tVar 0) (tC (.int 0))) (tOp (rIxT G.K) (tVar 0) (tC (.int 1)))) tNil))) (tCons (tCall (SpD G.K (R__law_frac G)) [] E (tCons (tOp (rIxT G.K) (tVar 0) (tC (.int 1))) (tCons (tOp (rI0 fun i j => .int (i + j)) (tOp (rIxT G.K) (tVar 0) (tC (.int 0))) (tOp (rIxT G.K) (tVar 0) (tC (.int 1)))) tNil))) tNil))))
end RA
set_option linter.all false
set_option maxHeartbeats 4000000
/-! Orders and sizes of the fractions of chances and means. -/
namespace RA
open PySem PySem.Spec PyProof.Rows L2 Evl
theorem pow_pos' {p : Rat} (h : 0 < p) : ∀ n : Nat, 0 < p ^ n
  | 0 => by rw [Rat.pow_zero]; decide
  | n + 1 => by rw [Rat.pow_succ]; exact Rat.mul_pos (pow_pos' h n) h
theorem pow_le' {p : Rat} (h : 0 < p) (h1 : p ≤ 1) : ∀ n : Nat, p ^ n ≤ 1
  | 0 => by rw [Rat.pow_zero]; decide
  | n + 1 => by
    rw [Rat.pow_succ]
    have a := pow_le' h h1 n
    have b := pow_pos' h n
    have c : p ^ n * p ≤ p ^ n * 1 := Rat.mul_le_mul_of_nonneg_left h1 (by grind)
    grind
theorem pow_lt' {p : Rat} (h : 0 < p) (h1 : p < 1) (n : Nat) : p ^ (n + 1) < 1 := by
  rw [Rat.pow_succ]
  have a := pow_le' h (by grind) n
  have b := pow_pos' h n
  have c : p ^ n * p ≤ 1 * p := Rat.mul_le_mul_of_nonneg_right a (by grind)
  grind
theorem cast_pos {i : Int} (h : 1 ≤ i) : (0 : Rat) < (i : Rat) := Rat.intCast_pos.mpr (by omega)
theorem pOf_div (u d : Int) : pOf u d = (u : Rat) / ((u : Rat) + (d : Rat)) := by
  unfold pOf; rw [Rat.divInt_eq_div, Rat.intCast_add]
theorem pOf_pos {u d : Int} (hu : Share u) (hd : Share d) : 0 < pOf u d := by
  rw [pOf_div, Rat.div_def]
  have a := cast_pos hu.1
  have b := cast_pos hd.1
  exact Rat.mul_pos a (Rat.inv_pos.mpr (by grind))
theorem pOf_sum {u d : Int} (hu : Share u) (hd : Share d) : pOf u d + pOf d u = 1 := by
  rw [pOf_div, pOf_div]
  have a := cast_pos hu.1
  have b := cast_pos hd.1
  grind
theorem pOf_lt {u d : Int} (hu : Share u) (hd : Share d) : pOf u d < 1 := by
  have a := pOf_sum hu hd
  have b := pOf_pos hd hu
  grind
theorem sz_pOf {u d : Int} (hu : Share u) (hd : Share d) : Sz 5 (pOf u d) := by
  unfold pOf Share at *
  exact sz_divInt (by omega) (by omega) (by omega)
theorem ends_pos {x y : Rat} (hx : 0 < x) (hy : 0 < y) (h1 : x ≤ 1) : 0 < endsR x y := by
  unfold endsR
  have : x * y ≤ 1 * y := Rat.mul_le_mul_of_nonneg_right h1 (by grind)
  grind

theorem Sz.pw {u d : Int} (hu : Share u) (hd : Share d) {i : Int} (h0 : 0 ≤ i) (h : i ≤ 40) : Sz 201 (pOf u d ^ i.toNat) := (Sz.pow (sz_pOf hu hd) (by decide) i.toNat).mono (by omega)
theorem sz_ends {n k : Nat} {p q : Rat} (hp : Sz n p) (hq : Sz k q) : Sz (2 * (n + k + 1)) (endsR p q) := ((hp.add hq).sub (hp.mul hq)).mono (by omega)
section
variable {u d j k s : Int} (hu : Share u) (hd : Share d) (hj : Run j) (hk : Run k)
include hu hd hj hk
theorem pw_x : Sz 201 (pOf u d ^ (j - 1).toNat) ∧ 0 < pOf u d ^ (j - 1).toNat ∧ pOf u d ^ (j - 1).toNat ≤ 1 := by
  unfold Run at hj
  exact ⟨Sz.pw hu hd (by omega) (by omega), pow_pos' (pOf_pos hu hd) _, pow_le' (pOf_pos hu hd) (by have := pOf_lt hu hd; grind) _⟩
theorem ends_ne : endsR (pOf u d ^ (j - 1).toNat) (pOf d u ^ (k - 1).toNat) ≠ 0 := by
  have a := pw_x hu hd hj hk
  have b := pw_x hd hu hk hj
  have c := ends_pos a.2.1 b.2.1 a.2.2
  grind
theorem sz_endsX : Sz 810 (endsR (pOf u d ^ (j - 1).toNat) (pOf d u ^ (k - 1).toNat)) := (sz_ends (pw_x hu hd hj hk).1 (pw_x hd hu hk hj).1).mono (by omega)
theorem sz_head : Sz 1011 (headR (pOf u d) (pOf d u) j k) := ((pw_x hu hd hj hk).1.div (sz_endsX hu hd hj hk) (ends_ne hu hd hj hk)).mono (by omega)
theorem sz_down : Sz 203 (1 - pOf d u ^ (k - 1).toNat) := (sz_one.sub (pw_x hd hu hk hj).1).mono (by omega)
theorem sz_tail : Sz 1214 (tailR (pOf u d) (pOf d u) j k) := ((sz_down hu hd hj hk).mul (sz_head hu hd hj hk)).mono (by omega)
theorem sz_chance (h1 : 1 - k ≤ s) (h2 : s ≤ j - 1) : Sz 2300 (chanceR (pOf u d) (pOf d u) j k s) := by
  unfold chanceR
  have hj' := hj
  have hk' := hk
  unfold Run at hj' hk'
  split
  · exact (((sz_pOf hu hd).mul (sz_head hu hd hj hk)).add ((sz_pOf hd hu).mul (sz_tail hu hd hj hk))).mono (by omega)
  split
  · have w := Sz.pw hu hd (i := j - s) (by omega) (by omega)
    exact (w.add ((sz_one.sub w).mul (sz_tail hu hd hj hk))).mono (by omega)
  · have w := Sz.pw hd hu (i := k + s) (by omega) (by omega)
    exact ((sz_one.sub w).mul (sz_head hu hd hj hk)).mono (by omega)
theorem sz_here : Sz 208 (hereR (pOf d u) (pOf u d ^ (j - 1).toNat)) := by
  have := pOf_pos hd hu
  exact ((sz_one.sub (pw_x hu hd hj hk).1).div (sz_pOf hd hu) (by grind)).mono (by omega)
theorem sz_headM : Sz 1440 (headM (pOf u d) (pOf d u) j k) :=
  (((sz_here hu hd hj hk).add ((sz_one.sub (pw_x hu hd hj hk).1).mul (sz_here hd hu hk hj))).div (sz_endsX hu hd hj hk) (ends_ne hu hd hj hk)).mono (by omega)
theorem sz_tailM : Sz 1440 (tailM (pOf u d) (pOf d u) j k) :=
  (((sz_here hd hu hk hj).add ((sz_one.sub (pw_x hd hu hk hj).1).mul (sz_here hu hd hj hk))).div (sz_endsX hu hd hj hk) (ends_ne hu hd hj hk)).mono (by omega)
theorem sz_mean (h1 : 1 - k ≤ s) (h2 : s ≤ j - 1) : Sz 2900 (meanR (pOf u d) (pOf d u) j k s) := by
  unfold meanR
  have hj' := hj
  have hk' := hk
  have pu := pOf_pos hu hd
  have pd := pOf_pos hd hu
  unfold Run at hj' hk'
  split
  · exact (sz_one.add (((sz_pOf hu hd).mul (sz_headM hu hd hj hk)).add ((sz_pOf hd hu).mul (sz_tailM hu hd hj hk)))).mono (by omega)
  split
  · have w := Sz.pw hu hd (i := j - s) (by omega) (by omega)
    exact (((sz_one.sub w).div (sz_pOf hd hu) (by grind)).add ((sz_one.sub w).mul (sz_tailM hu hd hj hk))).mono (by omega)
  · have w := Sz.pw hd hu (i := k + s) (by omega) (by omega)
    exact (((sz_one.sub w).div (sz_pOf hu hd) (by grind)).add ((sz_one.sub w).mul (sz_headM hu hd hj hk))).mono (by omega)
end
theorem sz_until {p : Rat} {n : Int} (h : Sz 5 p) (h0 : 0 < p) (h1 : p < 1) (hn : 0 ≤ n) {l : Nat} (hl : n.toNat ≤ l) : Sz (10 * l + 12) (untilR p n) := by
  unfold untilR
  have w := (Sz.pow h (by decide) n.toNat).mono (m := 5 * l + 1) (by omega)
  have a := pow_pos' h0 n.toNat
  have b : 0 < (1 - p) * p ^ n.toNat := Rat.mul_pos (by grind) a
  exact ((sz_one.sub w).div ((sz_one.sub h).mul w) (by grind)).mono (by omega)
theorem zero_lt_one_sub {p : Rat} (h : p < 1) : 1 - p ≠ 0 := by grind
end RA
set_option Elab.async false
set_option linter.all false
set_option maxRecDepth 100000
set_option maxHeartbeats 4000000
/-! The defs' readings (printed by gen.py). -/
namespace RA
open PySem PySem.Spec PyProof.Rows L2 Evl
/-- is_whole: 0 value -/
def n_is_whole : List Str := ["value"]
def t_is_whole (G : Gam) (E : XK) : TS :=
  (tRet (tAndV (tCB (rIsi G.K) (tCons (tVar 0) (tCons (tC (.ty "int")) tNil))) (tNotV (tCB (rIsi G.K) (tCons (tVar 0) (tCons (tC (.ty "bool")) tNil))))))
/-- is_within: 0 value, 1 low, 2 high -/
def n_is_within : List Str := ["value", "low", "high"]
def t_is_within (G : Gam) (E : XK) : TS :=
  (tRet (tAndV (tCall (SpD G.K (R_is_whole G)) [] E (tCons (tVar 0) tNil)) (tChain (rI0 fun i j => .bl (decide (i ≤ j))) (rI0 fun i j => .bl (decide (i ≤ j))) (tVar 1) (tVar 0) (tVar 2))))
/-- common: 0 one, 1 other -/
def n_common : List Str := ["one", "other"]
def t_common (G : Gam) (E : XK) : TS :=
  (tSeq (tPar 0 1 (tCons (tCB rAbs (tCons (tVar 0) tNil)) (tCons (tCB rAbs (tCons (tVar 1) tNil)) tNil)))
    (tSeq (tWhile (tTest (tOp (rI0 fun i j => .bl (decide (j < i))) (tVar 1) (tC (.int 0)))) (tPar 0 1 (tCons (tVar 1) (tCons (tOp (rI0 fun i j => .int (i - j)) (tVar 0) (tOp (rI CMulW fun i j => .int (i * j)) (tOp (rI CDivW fun i j => .int (i / j)) (tVar 0) (tVar 1)) (tVar 1))) tNil))))
    (tRet (tVar 0))))
/-- fraction: 0 number, 1 parts, 2 divisor -/
def n_fraction : List Str := ["number", "parts", "divisor"]
def t_fraction (G : Gam) (E : XK) : TS :=
  (tSeq (tIfS (tTest (tOp (rI0 fun i j => .bl (decide (i < j))) (tVar 1) (tC (.int 0)))) (tPar 0 1 (tCons (tUn (rU fun i => .int (-i)) (tVar 0)) (tCons (tUn (rU fun i => .int (-i)) (tVar 1)) tNil))) tNext)
    (tSeq (tAsg (tCall (SpD G.K (R_common G)) [] E (tCons (tVar 0) (tCons (tVar 1) tNil))) (gName 2))
    (tRet (tTup (tCons (tOp (rI CDivW fun i j => .int (i / j)) (tVar 0) (tVar 2)) (tCons (tOp (rI CDivW fun i j => .int (i / j)) (tVar 1) (tVar 2)) tNil))))))
/-- Coin.__init__: 0 self, 1 heads, 2 tails -/
def n_Coin_init : List Str := ["self", "heads", "tails"]
def t_Coin_init (G : Gam) (E : XK) : TS :=
  (tSeq (tIfS (tOr (tNot (tB (tCall (SpD G.K (R_is_within G)) [] E (tCons (tVar 1) (tCons (tC (.int 1)) (tCons (tC (.int 9)) tNil)))))) (tNot (tB (tCall (SpD G.K (R_is_within G)) [] E (tCons (tVar 2) (tCons (tC (.int 1)) (tCons (tC (.int 9)) tNil))))))) (tRz (tMkE G.cInvalidCoin (spE0 G.cInvalidCoin) tNil) E) tNext)
    (tSeq (sFld G.K (tVar 0) (tVar 1) "up")
    (tSeq (sFld G.K (tVar 0) (tVar 2) "down")
    (tSeq (sFld G.K (tVar 0) (tCall (SpD G.K (R_fraction G)) [] E (tCons (tVar 1) (tCons (tOp (rI0 fun i j => .int (i + j)) (tVar 1) (tVar 2)) tNil))) "ahead")
    (sFld G.K (tVar 0) (tCall (SpD G.K (R_fraction G)) [] E (tCons (tVar 2) (tCons (tOp (rI0 fun i j => .int (i + j)) (tVar 1) (tVar 2)) tNil))) "behind")))))
/-- Coin.heads: 0 self -/
def n_Coin_heads : List Str := ["self"]
def t_Coin_heads (G : Gam) (E : XK) : TS :=
  (tRet (tFld G.K (tVar 0) "up"))
/-- Coin.tails: 0 self -/
def n_Coin_tails : List Str := ["self"]
def t_Coin_tails (G : Gam) (E : XK) : TS :=
  (tRet (tFld G.K (tVar 0) "down"))
/-- Coin.__eq__: 0 self, 1 other -/
def n_Coin_eq : List Str := ["self", "other"]
def t_Coin_eq (G : Gam) (E : XK) : TS :=
  (tRet (tAndV (tCB (rIsi G.K) (tCons (tVar 1) (tCons (tC (.ref G.cCoin)) tNil))) (tOp (rEqD G.K) (tFld G.K (tVar 0) "ahead") (tFld G.K (tVar 1) "ahead"))))
/-- _law_taken: 0 _law_row, 1 _law_many, 2 _law_found, 3 _law_cell -/
def n__law_taken : List Str := ["_law_row", "_law_many", "_law_found", "_law_cell"]
def t__law_taken (G : Gam) (E : XK) : TS :=
  (tSeq (tIfS (tTest (tOp (rI0 fun i j => .bl (decide (j < i))) (tOp (rIxL G.K) (tVar 0) (tC (.int 3))) (tC (.int 0)))) (tSeq (tAsg (tOp (rI (fun _ j => 0 < j) fun i j => .int (i % j)) (tCB rInt1 (tCons (tOp (rIxL G.K) (tVar 0) (tC (.int 3))) tNil)) (tVar 1)) (gName 2))
    (tSeq (tAsg (tOp (rI CDivW fun i j => .int (i / j)) (tOp (rIxL G.K) (tVar 0) (tC (.int 3))) (tVar 1)) (gSub (tVar 0) (tC (.int 3)) rSetL))
    (tRet (tVar 2)))) tNext)
    (tSeq (tAsg (tOp (rI0 fun i j => .int (i + j)) (tOp (rIxL G.K) (tVar 0) (tC (.int 1))) (tC (.int 1))) (gSub (tVar 0) (tC (.int 1)) rSetL))
    (tSeq (tIfS (tTest (tOp (rI0 fun i j => .bl (decide (j < i))) (tOp (rIxL G.K) (tVar 0) (tC (.int 1))) (tCB (rLen G.K) (tCons (tOp (rIxL G.K) (tVar 0) (tC (.int 0))) tNil)))) (tSeq (tAsg (tOp (rI (fun _ j => 0 < j) fun i j => .int (i % j)) (tCB rInt1 (tCons (tOp (rI0 fun i j => .int (i + j)) (tOp (rI CMulW fun i j => .int (i * j)) (tOp (rIxL G.K) (tVar 0) (tC (.int 2))) (tC (.int 48271))) (tC (.int 11))) tNil)) (tC (.int 2147483647))) (gSub (tVar 0) (tC (.int 2)) rSetL))
    (tRet (tOp (rI (fun _ j => 0 < j) fun i j => .int (i % j)) (tCB rInt1 (tCons (tOp (rI CDivW fun i j => .int (i / j)) (tOp (rIxL G.K) (tVar 0) (tC (.int 2))) (tC (.int 7))) tNil)) (tVar 1)))) tNext)
    (tSeq (tAsg (tOp (rIxL G.K) (tOp (rIxL G.K) (tVar 0) (tC (.int 0))) (tOp (rI0 fun i j => .int (i - j)) (tOp (rIxL G.K) (tVar 0) (tC (.int 1))) (tC (.int 1)))) (gName 3))
    (tSeq (tAsg (tOp (rI (fun _ j => 0 < j) fun i j => .int (i % j)) (tCB rInt1 (tCons (tOp (rI0 fun i j => .int (i + j)) (tOp (rI0 fun i j => .int (i + j)) (tOp (rI CMulW fun i j => .int (i * j)) (tOp (rIxL G.K) (tVar 0) (tC (.int 2))) (tC (.int 48271))) (tVar 3)) (tC (.int 11))) tNil)) (tC (.int 2147483647))) (gSub (tVar 0) (tC (.int 2)) rSetL))
    (tSeq (tIfS (tTest (tOp (rI0 fun i j => .bl (decide (j ≤ i))) (tVar 3) (tOp (rI CPow fun i j => .int (i ^ j.toNat)) (tC (.int 10)) (tC (.int 18))))) (tAsg (tOp (rI CDivW fun i j => .int (i / j)) (tVar 3) (tVar 1)) (gSub (tVar 0) (tC (.int 3)) rSetL)) tNext)
    (tRet (tOp (rI (fun _ j => 0 < j) fun i j => .int (i % j)) (tCB rInt1 (tCons (tVar 3) tNil)) (tVar 1)))))))))
/-- _law_drawn: 0 _law_row -/
def n__law_drawn : List Str := ["_law_row"]
def t__law_drawn (G : Gam) (E : XK) : TS :=
  (tRet (tOp (rIxL G.K) (tLst (tCons (tTup (tCons (tC (.int 1)) (tCons (tC (.int 1)) tNil))) (tCons (tTup (tCons (tC (.int 2)) (tCons (tC (.int 1)) tNil))) (tCons (tTup (tCons (tC (.int 1)) (tCons (tC (.int 2)) tNil))) (tCons (tTup (tCons (tC (.int 3)) (tCons (tC (.int 2)) tNil))) (tCons (tTup (tCons (tC (.int 9)) (tCons (tC (.int 1)) tNil))) (tCons (tTup (tCons (tC (.int 4)) (tCons (tC (.int 6)) tNil))) (tCons (tTup (tCons (tC (.int 5)) (tCons (tC (.int 7)) tNil))) (tCons (tTup (tCons (tC (.int 1)) (tCons (tC (.int 8)) tNil))) tNil))))))))) (tCall (SpD G.K (R__law_taken G)) [] E (tCons (tVar 0) (tCons (tC (.int 8)) tNil)))))
/-- _law_runs: 0 _law_row, 1 _law_most -/
def n__law_runs : List Str := ["_law_row", "_law_most"]
def t__law_runs (G : Gam) (E : XK) : TS :=
  (tRet (tLst (tCons (tOp (rI0 fun i j => .int (i + j)) (tC (.int 1)) (tCall (SpD G.K (R__law_taken G)) [] E (tCons (tVar 0) (tCons (tOp (rIxL G.K) (tLst (tCons (tC (.int 3)) (tCons (tVar 1) tNil))) (tCall (SpD G.K (R__law_taken G)) [] E (tCons (tVar 0) (tCons (tC (.int 2)) tNil)))) tNil)))) (tCons (tOp (rI0 fun i j => .int (i + j)) (tC (.int 1)) (tCall (SpD G.K (R__law_taken G)) [] E (tCons (tVar 0) (tCons (tOp (rIxL G.K) (tLst (tCons (tC (.int 3)) (tCons (tVar 1) tNil))) (tCall (SpD G.K (R__law_taken G)) [] E (tCons (tVar 0) (tCons (tC (.int 2)) tNil)))) tNil)))) tNil))))
end RA
set_option Elab.async false
set_option linter.all false
set_option maxRecDepth 100000
set_option maxHeartbeats 4000000
namespace RA
open PySem PySem.Spec PyProof.Rows L2 Evl
/-! the walk over a reading -/
local macro_rules | `(tactic| walk_at "ra1") => `(tactic| first
  | exact ev_int
  | exact ev_bl
  | exact ev_non
  | exact ev_str
  | exact ev_ty
  | exact ev_ref
  | (refine ev_var ?_; rfl)
  | exact ea_nil
  | apply ea_cons
  | apply ev_opI0
  | apply ev_opB0
  | apply ev_opI
  | refine ev_neg ?_
  | apply ev_ixT
  | (show atI _ _ = some _; rfl)
  | refine ev_tup ?_ (by first | decide | simp)
  | apply ev_cb
  | apply ev_call
  | refine et_test ?_
  | refine et_B ?_
  | refine et_not ?_
  | exact et_yes)
local macro_rules | `(tactic| walk_at "ra") => `(tactic| repeat' (walk_at "ra1"))
variable {G : Gam} {ds : List D} {m : Mem} {P : Oc → Prop} {E : XK}
theorem p_is_whole (h : R_is_whole G ds m P) : ExS G.K E (t_is_whole G E) (startT n_is_whole ds) m (Fin P) := by
  obtain ⟨d, rfl, hf, p⟩ := h
  obtain ⟨T, hT⟩ := Option.isSome_iff_exists.mp hf
  show ExS G.K E (t_is_whole G E) [some d] m (Fin P)
  refine s_ret (ev_and (b1 := decide (T = "int" ∨ T = "bool")) (b2 := !decide (T = "bool")) ?_ (fun _ => ?_)) ?_
  · refine ev_cb (by walk_at "ra") (cb_isi hT ?_)
    cases d <;> simp only [tyD, Option.some.injEq, reduceCtorEq] at hT <;> subst hT <;> decide +kernel
  · refine ev_not (ev_cb (by walk_at "ra") (cb_isi hT ?_))
    cases d <;> simp only [tyD, Option.some.injEq, reduceCtorEq] at hT <;> subst hT <;> decide +kernel
  · have e : (decide (T = "int" ∨ T = "bool") && !decide (T = "bool")) = isIntD d := by
      cases d <;> simp only [tyD, Option.some.injEq, reduceCtorEq] at hT <;> subst hT <;> simp [isIntD]
    show P _
    rw [e]; exact p
theorem p_is_within (h : R_is_within G ds m P) : ExS G.K E (t_is_within G E) (startT n_is_within ds) m (Fin P) := by
  obtain ⟨d, lo, hi, rfl, hf, p⟩ := h
  show ExS G.K E (t_is_within G E) [some d, some (.int lo), some (.int hi)] m (Fin P)
  refine s_ret (d := .bl (withinD d lo hi)) ?_ p
  refine EvD.is (ev_and (b1 := isIntD d) (b2 := withinD d lo hi) ?_ (fun hi' => ?_)) ?_
  · exact ev_call (by walk_at "ra") ⟨d, rfl, hf, rfl, rfl⟩
  · cases d <;> simp only [isIntD, Bool.false_eq_true] at hi'
    rename_i i
    refine ev_chain (b1 := decide (lo ≤ i)) (b2 := decide (i ≤ hi)) (d1 := .int lo) (d2 := .int i) (d3 := .int hi) ?_ ?_ (od_I0 fun _ => .bl _) (fun _ => ?_) (fun _ => od_I0 fun _ => .bl _)
    all_goals walk_at "ra"
  · cases d <;> rfl
theorem small_log {i : Int} {n : Nat} (h : i.natAbs < 2 ^ n) (hn : 0 < n) : i.natAbs.log2 < n := by
  by_cases z : i.natAbs = 0
  · rw [z]; simpa using hn
  · exact (Nat.log2_lt z).mpr h
theorem cdivW {a b : Int} (h : 0 < b) (hb : small9 b) : CDivW a b := ⟨h, small_log hb (by decide)⟩
theorem cmulW {a b : Int} {n m : Nat} (ha : a.natAbs < 2 ^ n) (hb : b.natAbs < 2 ^ m) (h : n + m ≤ 900000) : CMulW a b := by
  have h1 : a.natAbs.log2 ≤ n := by
    by_cases z : a.natAbs = 0
    · rw [z]; simp
    · exact Nat.le_of_lt ((Nat.log2_lt z).mpr ha)
  have h2 : b.natAbs.log2 ≤ m := by
    by_cases z : b.natAbs = 0
    · rw [z]; simp
    · exact Nat.le_of_lt ((Nat.log2_lt z).mpr hb)
  unfold CMulW; omega
theorem small_le {a b : Int} (h : small9 b) (h0 : 0 ≤ a) (l : a ≤ b) : small9 a := by
  unfold small9 at *
  exact Nat.lt_of_le_of_lt (by omega) h
theorem abs_if (i : Int) : (if i < 0 then -i else i) = (i.natAbs : Int) := by
  by_cases h : i < 0
  · rw [if_pos h]; omega
  · rw [if_neg h]; omega
theorem p_common (h : R_common G ds m P) : ExS G.K E (t_common G E) (startT n_common ds) m (Fin P) := by
  obtain ⟨a, b, rfl, ha, hb, p⟩ := h
  show ExS G.K E (t_common G E) [some (.int a), some (.int b)] m (Fin P)
  refine s_seq (s_par (d1 := .int (if a < 0 then -a else a)) (d2 := .int (if b < 0 then -b else b)) (ea_cons (ev_cb (by walk_at "ra") cb_abs) (ea_cons (ev_cb (by walk_at "ra") cb_abs) ea_nil)) ?_)
  rw [abs_if, abs_if]
  show ExS G.K E _ [some (.int a.natAbs), some (.int b.natAbs)] m (Fin P)
  refine s_seq (s_while (fun n ts1 m1 => ∃ x y : Int, ts1 = [some (.int x), some (.int y)] ∧ m1 = m ∧ 0 ≤ x ∧ 0 ≤ y ∧ n = y.toNat ∧ small9 x ∧ small9 y ∧ Int.gcd x y = Int.gcd a b) b.natAbs ?_ ?_)
  · refine ⟨_, _, rfl, rfl, by omega, by omega, by omega, ?_, ?_, ?_⟩
    · unfold small9 at *; simpa using ha
    · unfold small9 at *; simpa using hb
    · simp [Int.gcd]
  · rintro n ts1 m1 ⟨x, y, rfl, rfl, hx, hy, rfl, sx, sy, hg⟩
    refine ⟨decide (0 < y), ?_, fun c => ?_, fun c => ?_⟩
    · walk_at "ra"
    · have c : 0 < y := of_decide_eq_true c
      refine s_par (d1 := .int y) (d2 := .int (x - x / y * y)) (ea_cons (by walk_at "ra") (ea_cons (by
        walk_at "ra"
        · exact cdivW c sy
        · refine cmulW (n := 9000) (m := 9000) ?_ sy (by decide)
          exact small_le sx (Int.ediv_nonneg hx hy) (Int.ediv_le_self _ hx)) ea_nil)) ?_
      have e : x - x / y * y = x % y := by rw [Int.emod_def, Int.mul_comm]
      have h1 := Int.emod_nonneg x (by omega : y ≠ 0)
      have h2 := Int.emod_lt_of_pos x c
      refine ⟨(x % y).toNat, by omega, y, x % y, by rw [e]; rfl, rfl, hy, h1, rfl, sy, small_le sy h1 (by omega), by rw [gcd_mod, hg]⟩
    · have c : y = 0 := by
        have := of_decide_eq_false c
        omega
      subst c
      refine s_ret (d := .int x) (by walk_at "ra") ?_
      have e : (x : Int) = (Int.gcd a b : Int) := by
        rw [← hg]; simp [Int.gcd]; omega
      show P _
      rw [e]; exact p

theorem small_neg {a : Int} (h : small9 a) : small9 (-a) := by unfold small9 at *; rwa [Int.natAbs_neg]
theorem frac_pos {a b : Int} (hb : 0 < b) : frD (Rat.divInt a b) = .tup [.int (a / (Int.gcd a b : Int)), .int (b / (Int.gcd a b : Int))] := by
  unfold frD; rw [divInt_num_pos hb, divInt_den_pos hb]
theorem gcd_small {a b : Int} (h : b ≠ 0) (hb : small9 b) : 0 < (Int.gcd a b : Int) ∧ small9 (Int.gcd a b : Int) := by
  have h1 : 0 < Int.gcd a b := Int.gcd_pos_of_ne_zero_right a h
  have h2 : Int.gcd a b ≤ b.natAbs := Int.gcd_le_natAbs_right _ h
  refine ⟨by omega, ?_⟩
  unfold small9 at *
  exact Nat.lt_of_le_of_lt (by omega) hb
theorem p_fraction (h : R_fraction G ds m P) : ExS G.K E (t_fraction G E) (startT n_fraction ds) m (Fin P) := by
  obtain ⟨a, b, rfl, h0, ha, hb, p⟩ := h
  show ExS G.K E (t_fraction G E) [some (.int a), some (.int b), none] m (Fin P)
  have rest : ∀ a b : Int, 0 < b → small9 a → small9 b → P (.rt (frD (Rat.divInt a b)) m) → ExS G.K E (tSeq (tAsg (tCall (SpD G.K (R_common G)) [] E (tCons (tVar 0) (tCons (tVar 1) tNil))) (gName 2))
      (tRet (tTup (tCons (tOp (rI CDivW fun i j => .int (i / j)) (tVar 0) (tVar 2)) (tCons (tOp (rI CDivW fun i j => .int (i / j)) (tVar 1) (tVar 2)) tNil))))) [some (.int a), some (.int b), none] m (Fin P) := by
    intro a b hb ha hb' p
    obtain ⟨g1, g2⟩ := gcd_small (a := a) (by omega : b ≠ 0) hb'
    refine s_seq (s_asg (ev_call (d := .int (Int.gcd a b)) (by walk_at "ra") ⟨a, b, rfl, ha, hb', rfl, rfl⟩) ?_)
    show ExS G.K E _ [some (.int a), some (.int b), some (.int (Int.gcd a b))] m (Fin P)
    refine s_ret (d := .tup [.int (a / (Int.gcd a b : Int)), .int (b / (Int.gcd a b : Int))]) ?_ (by rw [frac_pos hb] at p; exact p)
    walk_at "ra"
    · exact cdivW g1 g2
    · exact cdivW g1 g2
  by_cases c : b < 0
  · refine s_seq (s_if1 (by refine EvT.is (b := decide (b < 0)) (by walk_at "ra") (decide_eq_true c)) (s_par (d1 := .int (-a)) (d2 := .int (-b)) (by walk_at "ra") ?_))
    refine rest (-a) (-b) (by omega) (small_neg ha) (small_neg hb) ?_
    rw [divInt_neg]; exact p
  · refine s_seq (s_if0 (by refine EvT.is (b := decide (b < 0)) (by walk_at "ra") (decide_eq_false c)) (s_next ?_))
    exact rest a b (by omega) ha hb p
/-! ### coins -/
/-- what of the written part Coin's defs lean on -/
structure CoinOk (G : Gam) : Prop where
  ins : InsOk G.K G.cCoin
  up : NoAttr G.K G.cCoin "up"
  down : NoAttr G.K G.cCoin "down"
  ahead : NoAttr G.K G.cCoin "ahead"
  behind : NoAttr G.K G.cCoin "behind"
theorem lk_hit {f : Str} {v : D} {r : List (Str × D)} : List.lookup f ((f, v) :: r) = some v := by simp [List.lookup]
theorem lk_skip {f g : Str} {v : D} {r : List (Str × D)} (h : (f == g) = false) : List.lookup f ((g, v) :: r) = List.lookup f r := by simp [List.lookup, h]
theorem put_end {f : Str} {v : D} : putD f v [] = [(f, v)] := rfl
theorem put_skip {f g : Str} {v x : D} {r : List (Str × D)} (h : ¬ g = f) : putD f v ((g, x) :: r) = (g, x) :: putD f v r := by
  show (if g = f then _ else _) = _
  rw [if_neg h]
theorem put_hit {f : Str} {v x : D} {r : List (Str × D)} : putD f v ((f, x) :: r) = (f, v) :: r := by
  show (if f = f then _ else _) = _
  rw [if_pos rfl]
theorem lk_up (u d : Int) : List.lookup ("up" : Str) (coinF u d) = some (D.int u) := lk_hit
theorem lk_down (u d : Int) : List.lookup ("down" : Str) (coinF u d) = some (D.int d) := (lk_skip (by decide +kernel)).trans lk_hit
theorem lk_ahead (u d : Int) : List.lookup ("ahead" : Str) (coinF u d) = some (frD (pOf u d)) := (lk_skip (by decide +kernel)).trans ((lk_skip (by decide +kernel)).trans lk_hit)
theorem lk_behind (u d : Int) : List.lookup ("behind" : Str) (coinF u d) = some (frD (pOf d u)) := (lk_skip (by decide +kernel)).trans ((lk_skip (by decide +kernel)).trans ((lk_skip (by decide +kernel)).trans lk_hit))
theorem p_Coin_heads (T : CoinOk G) (h : R_Coin_heads G ds m P) : ExS G.K E (t_Coin_heads G E) (startT n_Coin_heads ds) m (Fin P) := by
  obtain ⟨u, d, rfl, p⟩ := h
  show ExS G.K E (t_Coin_heads G E) [some (coinD G u d)] m (Fin P)
  exact s_ret (ev_fld (by walk_at "ra") T.ins.cl T.up (lk_up u d)) p
theorem p_Coin_tails (T : CoinOk G) (h : R_Coin_tails G ds m P) : ExS G.K E (t_Coin_tails G E) (startT n_Coin_tails ds) m (Fin P) := by
  obtain ⟨u, d, rfl, p⟩ := h
  show ExS G.K E (t_Coin_tails G E) [some (coinD G u d)] m (Fin P)
  exact s_ret (ev_fld (by walk_at "ra") T.ins.cl T.down (lk_down u d)) p
/-! == of fractions -/
theorem pyD_fr (q : Rat) : pyD (frD q) = some (.tuple [.int q.num, .int q.den]) := rfl
theorem eqv_fr (p q : Rat) : PyData.eqv (.tuple [.int p.num, .int p.den]) (.tuple [.int q.num, .int q.den]) = decide (p = q) := by
  by_cases h : p = q
  · subst h; simp [PyData.eqv, PyData.eqvAll]
  · rw [decide_eq_false h]
    by_cases h1 : p.num = q.num
    · have h2 : ¬ ((p.den : Int) = q.den) := fun z => h (Rat.ext h1 (by omega))
      simp [PyData.eqv, PyData.eqvAll, h1]
      omega
    · simp [PyData.eqv, PyData.eqvAll, h1]
theorem p_Coin_eq (T : CoinOk G) (h : R_Coin_eq G ds m P) : ExS G.K E (t_Coin_eq G E) (startT n_Coin_eq ds) m (Fin P) := by
  obtain ⟨u, d, e, rfl, h⟩ := h
  show ExS G.K E (t_Coin_eq G E) [some (coinD G u d), some e] m (Fin P)
  rcases h with ⟨u', d', rfl, p⟩ | ⟨Ty, hT, hk, p⟩
  · refine s_ret (ev_and1 (ev_cb (by walk_at "ra") (cb_isiOwn T.ins)) (ev_eqD (p1 := .tuple [.int (pOf u d).num, .int (pOf u d).den]) (p2 := .tuple [.int (pOf u' d').num, .int (pOf u' d').den])
      (ev_fld (by walk_at "ra") T.ins.cl T.ahead (lk_ahead u d)) (ev_fld (by walk_at "ra") T.ins.cl T.ahead (lk_ahead u' d')) rfl rfl rfl rfl)) ?_
    show P _
    rw [eqv_fr]; exact p
  · exact s_ret (ev_and0 (ev_cb (by walk_at "ra") (cb_isiNot hT hk))) p
theorem p_Coin_init (T : CoinOk G) (h : R_Coin_init G ds m P) : ExS G.K E (t_Coin_init G E) (startT n_Coin_init ds) m (Fin P) := by
  obtain ⟨x, m0, d1, d2, rfl, rfl, f1, f2, h⟩ := h
  show ExS G.K E (t_Coin_init G E) [some (.ref x), some d1, some d2] _ (Fin P)
  refine s_seq (s_if (b := !withinD d1 1 9 || !withinD d2 1 9) ?_ (fun c => ?_) (fun c => ?_))
  · refine et_or (b1 := !withinD d1 1 9) (b2 := !withinD d2 1 9) (et_not (et_B (ev_call (d := .bl (withinD d1 1 9)) (by walk_at "ra") ⟨d1, 1, 9, rfl, f1, rfl, rfl⟩))) (fun _ => et_not (et_B (ev_call (d := .bl (withinD d2 1 9)) (by walk_at "ra") ⟨d2, 1, 9, rfl, f2, rfl, rfl⟩)))
  · rcases h with ⟨u, d, rfl, rfl, su, sd, p⟩ | ⟨hw, p⟩
    · exfalso
      unfold Share at su sd
      simp only [withinD, Bool.or_eq_true, Bool.not_eq_true', Bool.and_eq_false_iff, decide_eq_false_iff_not] at c
      omega
    · exact s_raise0 p
  · rcases h with ⟨u, d, rfl, rfl, su, sd, p⟩ | ⟨hw, p⟩
    · refine s_next ?_
      have hs : ∀ {i : Int}, i.natAbs < 100 → small9 i := fun {i} h => Nat.lt_of_lt_of_le h (by decide +kernel)
      unfold Share at su sd
      refine s_seq (s_fld (k := 0) (fs := []) (d := .int u) (by walk_at "ra") (by walk_at "ra") rfl T.ins.cl T.up (by decide) ?_)
      refine s_seq (s_fld (k := 0) (fs := [("up", .int u)]) (d := .int d) (by walk_at "ra") (by walk_at "ra") rfl T.ins.cl T.down (by simp) ?_)
      rw [put_skip (by decide +kernel), put_end]
      refine s_seq (s_fld (k := 0) (fs := [("up", .int u), ("down", .int d)]) (d := frD (pOf u d)) ?_ (by walk_at "ra") rfl T.ins.cl T.ahead (by simp) ?_)
      · refine ev_call (by walk_at "ra") ⟨u, u + d, rfl, by omega, hs (by omega), hs (by omega), rfl, rfl⟩
      rw [put_skip (by decide +kernel), put_skip (by decide +kernel), put_end]
      refine s_fld (k := 0) (fs := [("up", .int u), ("down", .int d), ("ahead", frD (pOf u d))]) (d := frD (pOf d u)) ?_ (by walk_at "ra") rfl T.ins.cl T.behind (by simp) ?_
      · refine ev_call (by walk_at "ra") ⟨d, u + d, rfl, by omega, hs (by omega), hs (by omega), ?_, rfl⟩
        unfold pOf; rw [Int.add_comm]
      rw [put_skip (by decide +kernel), put_skip (by decide +kernel), put_skip (by decide +kernel), put_end]
      exact p
    · exfalso
      rw [Bool.and_eq_false_iff] at hw
      rcases hw with z | z <;> rw [z] at c <;> simp at c
/-! ### the draws -/
end RA
set_option Elab.async false
set_option linter.all false
set_option maxRecDepth 100000
set_option maxHeartbeats 4000000
namespace RA
open PySem PySem.Spec PyProof.Rows L2 Evl
/-! the walk over a reading -/
local macro_rules | `(tactic| walk_at "ra1") => `(tactic| first
  | exact ev_int
  | exact ev_bl
  | exact ev_non
  | exact ev_str
  | exact ev_ty
  | exact ev_ref
  | (refine ev_var ?_; rfl)
  | exact ea_nil
  | apply ea_cons
  | apply ev_opI0
  | apply ev_opB0
  | apply ev_opI
  | refine ev_neg ?_
  | apply ev_ixT
  | (show atI _ _ = some _; rfl)
  | refine ev_tup ?_ (by first | decide | simp)
  | apply ev_cb
  | apply ev_call
  | refine et_test ?_
  | refine et_B ?_
  | refine et_not ?_
  | exact et_yes)
local macro_rules | `(tactic| walk_at "ra") => `(tactic| repeat' (walk_at "ra1"))
variable {G : Gam} {ds : List D} {m : Mem} {P : Oc → Prop} {E : XK}
theorem at_ofD {α : Type} {xs : List α} {z : Int} {j : Nat} {v : α} (e : z = (j : Int)) (h : xs[j]? = some v) : atI xs z = some v := by
  subst e; exact atI_nat h
theorem row_at0 {ns : List Int} {i s c : Int} : atI [D.lst (ns.map .int), .int i, .int s, .int c] 0 = some (.lst (ns.map .int)) := rfl
theorem row_at1 {ns : List Int} {i s c : Int} : atI [D.lst (ns.map .int), .int i, .int s, .int c] 1 = some (.int i) := rfl
theorem row_at2 {ns : List Int} {i s c : Int} : atI [D.lst (ns.map .int), .int i, .int s, .int c] 2 = some (.int s) := rfl
theorem row_at3 {ns : List Int} {i s c : Int} : atI [D.lst (ns.map .int), .int i, .int s, .int c] 3 = some (.int c) := rfl
theorem set_at {m : Mem} {k : Nat} {l : Addr} {d d' : D} (h : m[k]? = some (l, d)) : (m.set k (l, d'))[k]? = some (l, d') := by
  have hl : k < m.length := (List.getElem?_eq_some_iff.mp h).1
  exact List.getElem?_set_self hl
theorem set_set {m : Mem} {k : Nat} {p q : Addr × D} : (m.set k p).set k q = m.set k q := List.set_set ..
theorem int_at {ns : List Int} {j : Nat} {z : Int} (h : ns[j]? = some z) : (ns.map D.int)[j]? = some (.int z) := by
  rw [List.getElem?_map, h]; rfl
theorem small1000 {many : Int} (h0 : 0 < many) (h : many ≤ 1000) : small9 many := Nat.lt_of_lt_of_le (by omega : many.natAbs < 1024) (by decide +kernel)
theorem p__law_taken (h : R__law_taken G ds m P) : ExS G.K E (t__law_taken G E) (startT n__law_taken ds) m (Fin P) := by
  obtain ⟨l, many, rfl, h0, h1, k, r, hk, ⟨ns, i, s, c, rfl, hi, hn, hs⟩, p⟩ := h
  have dm := small1000 h0 h1
  have mod0 : ∀ z : Int, 0 ≤ z % many := fun z => Int.emod_nonneg z (by omega)
  have modl : ∀ z : Int, z % many < many := fun z => Int.emod_lt_of_pos z h0
  show ExS G.K E (t__law_taken G E) [some (.ref l), some (.int many), none, none] m (Fin P)
  have row : ∀ {ts : TSt} {m : Mem} {ns : List Int} {i s c : Int} {te : TE} {j : Int} {d : D}, ts[0]? = some (some (D.ref l)) → m[k]? = some (l, rowD ns i s c) → EvD G.K te ts m (.int j) → atI [D.lst (ns.map .int), .int i, .int s, .int c] j = some d →
      EvD G.K (tOp (rIxL G.K) (tVar 0) te) ts m d := fun ht hk he ha => ev_ixM (ev_var ht) he hk ha
  by_cases c0 : 0 < c
  · refine s_seq (s_if1 ?_ ?_)
    · exact EvT.is (et_test (ev_opB0 (row rfl hk ev_int row_at3) ev_int)) (decide_eq_true c0)
    refine s_seq (s_asg (d := .int (c % many)) (ev_opI (ev_cb (ea_cons (row rfl hk ev_int row_at3) ea_nil) cb_int) (ev_var rfl) h0) ?_)
    show ExS G.K E _ [some (.ref l), some (.int many), some (.int (c % many)), none] m _
    refine s_seq (s_setL (d := .int (c / many)) (i := 3) (j := 3) (ev_opI (row rfl hk ev_int row_at3) (ev_var rfl) (cdivW h0 dm)) (ev_var rfl) ev_int hk rfl ?_)
    refine s_ret (ev_var rfl) ?_
    exact p _ _ (mod0 c) (modl c) ⟨ns, i, s, c / many, rfl, hi, hn, hs⟩
  · refine s_seq (s_if0 ?_ (s_next ?_))
    · exact EvT.is (et_test (ev_opB0 (row rfl hk ev_int row_at3) ev_int)) (decide_eq_false c0)
    refine s_seq (s_setL (d := .int (i + 1)) (i := 1) (j := 1) (ev_opI0 (row rfl hk ev_int row_at1) ev_int) (ev_var rfl) ev_int hk rfl ?_)
    have hk1 : (m.set k (l, rowD ns (i + 1) s c))[k]? = some (l, rowD ns (i + 1) s c) := set_at hk
    show ExS G.K E _ [some (.ref l), some (.int many), none, none] (m.set k (l, rowD ns (i + 1) s c)) (Fin P)
    have sd : CMulW s 48271 := cmulW (n := 31) (m := 31) hs (by decide) (by decide)
    by_cases c1 : (ns.length : Int) < i + 1
    · refine s_seq (s_if1 ?_ ?_)
      · refine EvT.is (et_test (ev_opB0 (row rfl hk1 ev_int row_at1) (ev_cb (ea_cons (row rfl hk1 ev_int row_at0) ea_nil) cb_lenL))) ?_
        rw [List.length_map]; exact decide_eq_true c1
      refine s_seq (s_setL (d := .int ((s * 48271 + 11) % 2147483647)) (i := 2) (j := 2) (ev_opI (ev_cb (ea_cons (ev_opI0 (ev_opI (row rfl hk1 ev_int row_at2) ev_int sd) ev_int) ea_nil) cb_int) ev_int (by decide)) (ev_var rfl) ev_int hk1 rfl ?_)
      rw [set_set]
      have hk2 : (m.set k (l, rowD ns (i + 1) ((s * 48271 + 11) % 2147483647) c))[k]? = some (l, rowD ns (i + 1) ((s * 48271 + 11) % 2147483647) c) := set_at hk
      show ExS G.K E _ [some (.ref l), some (.int many), none, none] (m.set k (l, rowD ns (i + 1) ((s * 48271 + 11) % 2147483647) c)) _
      refine s_ret (d := .int (((s * 48271 + 11) % 2147483647) / 7 % many)) (ev_opI (ev_cb (ea_cons (ev_opI (row rfl hk2 ev_int row_at2) ev_int (cdivW (by decide) (small1000 (by decide) (by decide)))) ea_nil) cb_int) (ev_var rfl) h0) ?_
      refine p _ _ (mod0 _) (modl _) ⟨ns, i + 1, _, c, rfl, by omega, hn, by omega⟩
    · refine s_seq (s_if0 ?_ (s_next ?_))
      · refine EvT.is (et_test (ev_opB0 (row rfl hk1 ev_int row_at1) (ev_cb (ea_cons (row rfl hk1 ev_int row_at0) ea_nil) cb_lenL))) ?_
        rw [List.length_map]; exact decide_eq_false c1
      have hj : i.toNat < ns.length := by omega
      obtain ⟨z, hz⟩ : ∃ z, ns[i.toNat]? = some z := ⟨_, List.getElem?_eq_getElem hj⟩
      refine s_seq (s_asg (d := .int z) (ev_ixL (row rfl hk1 ev_int row_at0) (ev_opI0 (row rfl hk1 ev_int row_at1) ev_int) (at_ofD (j := i.toNat) (by omega) (int_at hz))) ?_)
      show ExS G.K E _ [some (.ref l), some (.int many), none, some (.int z)] (m.set k (l, rowD ns (i + 1) s c)) _
      refine s_seq (s_setL (d := .int ((s * 48271 + z + 11) % 2147483647)) (i := 2) (j := 2) (ev_opI (ev_cb (ea_cons (ev_opI0 (ev_opI0 (ev_opI (row rfl hk1 ev_int row_at2) ev_int sd) (ev_var rfl)) ev_int) ea_nil) cb_int) ev_int (by decide)) (ev_var rfl) ev_int hk1 rfl ?_)
      rw [set_set]
      have hk2 : (m.set k (l, rowD ns (i + 1) ((s * 48271 + z + 11) % 2147483647) c))[k]? = some (l, rowD ns (i + 1) ((s * 48271 + z + 11) % 2147483647) c) := set_at hk
      show ExS G.K E _ [some (.ref l), some (.int many), none, some (.int z)] (m.set k (l, rowD ns (i + 1) ((s * 48271 + z + 11) % 2147483647) c)) _
      have last : ∀ c', ExS G.K E (tRet (tOp (rI (fun _ j => 0 < j) fun i j => .int (i % j)) (tCB rInt1 (tCons (tVar 3) tNil)) (tVar 1))) [some (.ref l), some (.int many), none, some (.int z)] (m.set k (l, rowD ns (i + 1) ((s * 48271 + z + 11) % 2147483647) c')) (Fin P) := fun c' => by
        refine s_ret (d := .int (z % many)) (ev_opI (ev_cb (ea_cons (ev_var rfl) ea_nil) cb_int) (ev_var rfl) h0) ?_
        exact p _ _ (mod0 _) (modl _) ⟨ns, i + 1, _, c', rfl, by omega, hn, by omega⟩
      refine s_seq (s_if (b := decide ((10 : Int) ^ 18 ≤ z)) ?_ (fun _ => ?_) (fun _ => s_next (last c)))
      · exact et_test (ev_opB0 (ev_var rfl) (ev_opI ev_int ev_int ⟨by decide, by decide, by decide⟩))
      · refine s_setL (d := .int (z / many)) (i := 3) (j := 3) (ev_opI (ev_var rfl) (ev_var rfl) (cdivW h0 dm)) (ev_var rfl) ev_int hk2 rfl ?_
        rw [set_set]
        exact last (z / many)
theorem p__law_drawn (h : R__law_drawn G ds m P) : ExS G.K E (t__law_drawn G E) (startT n__law_drawn ds) m (Fin P) := by
  obtain ⟨l, rfl, k, r, hk, hr, p⟩ := h
  show ExS G.K E (t__law_drawn G E) [some (.ref l)] m (Fin P)
  have hlist : EvD G.K (tLst (tCons (tTup (tCons (tC (.int 1)) (tCons (tC (.int 1)) tNil))) (tCons (tTup (tCons (tC (.int 2)) (tCons (tC (.int 1)) tNil))) (tCons (tTup (tCons (tC (.int 1)) (tCons (tC (.int 2)) tNil))) (tCons (tTup (tCons (tC (.int 3)) (tCons (tC (.int 2)) tNil))) (tCons (tTup (tCons (tC (.int 9)) (tCons (tC (.int 1)) tNil))) (tCons (tTup (tCons (tC (.int 4)) (tCons (tC (.int 6)) tNil))) (tCons (tTup (tCons (tC (.int 5)) (tCons (tC (.int 7)) tNil))) (tCons (tTup (tCons (tC (.int 1)) (tCons (tC (.int 8)) tNil))) tNil))))))))) [some (.ref l)] m (.lst (drawnL.map fun p => pairD p.1 p.2)) := by
    show EvD G.K _ _ _ (.lst [pairD 1 1, pairD 2 1, pairD 1 2, pairD 3 2, pairD 9 1, pairD 4 6, pairD 5 7, pairD 1 8])
    refine ev_lst ?_ (by decide)
    unfold pairD
    walk_at "ra"
  refine s_retP (ev_opP (hlist.p (ev_callP ?_)))
  refine EvL.p (ds := [.ref l, .int 8]) (by walk_at "ra") ⟨l, 8, rfl, by decide, by decide, k, r, hk, hr, fun x r' h0 h1 hr' => ?_⟩
  obtain ⟨j, hj, rfl⟩ : ∃ j : Nat, j < 8 ∧ x = j := ⟨x.toNat, by omega, by omega⟩
  obtain ⟨⟨a, b⟩, hab⟩ : ∃ q, drawnL[j]? = some q := ⟨_, List.getElem?_eq_getElem (by simpa [drawnL] using hj)⟩
  have hl : (drawnL.map fun p => pairD p.1 p.2)[j]? = some (pairD a b) := by
    rw [List.getElem?_map, hab]; rfl
  exact ⟨_, od_ixL (at_ofD (j := j) rfl hl), p a b _ (List.mem_of_getElem? hab) hr'⟩
theorem p__law_runs (h : R__law_runs G ds m P) : ExS G.K E (t__law_runs G E) (startT n__law_runs ds) m (Fin P) := by
  obtain ⟨l, most, rfl, h3, h1, k, r, hk, hr, p⟩ := h
  show ExS G.K E (t__law_runs G E) [some (.ref l), some (.int most)] m (Fin P)
  -- 1 + taken(row, [3, most][taken(row, 2)])
  have one : ∀ {m : Mem} {r : D} {PD : D → Mem → Prop}, m[k]? = some (l, r) → RowOk r → (∀ a r', 1 ≤ a → a ≤ most → RowOk r' → PD (.int a) (m.set k (l, r'))) →
      EvP G.K (tOp (rI0 fun i j => .int (i + j)) (tC (.int 1)) (tCall (SpD G.K (R__law_taken G)) [] E (tCons (tVar 0) (tCons (tOp (rIxL G.K) (tLst (tCons (tC (.int 3)) (tCons (tVar 1) tNil))) (tCall (SpD G.K (R__law_taken G)) [] E (tCons (tVar 0) (tCons (tC (.int 2)) tNil)))) tNil)))) [some (.ref l), some (.int most)] m PD := by
    intro m r PD hk hr q
    refine ev_opP (EvD.p (d := .int 1) ev_int ?_)
    refine ev_callP (ea_consP (EvD.p (d := .ref l) (ev_var rfl) ?_))
    refine ea_consP (ev_opP (EvD.p (d := .lst [.int 3, .int most]) (ev_lst (ea_cons ev_int (ea_cons (ev_var rfl) ea_nil)) (by simp)) ?_))
    refine ev_callP ?_
    refine EvL.p (ds := [.ref l, .int 2]) (by walk_at "ra") ⟨l, 2, rfl, by decide, by decide, k, r, hk, hr, fun x r' h0 h2 hr' => ?_⟩
    have hk' : (m.set k (l, r'))[k]? = some (l, r') := set_at hk
    have fin : ∀ b : Int, 3 ≤ b → b ≤ most → EvA G.K tNil [some (.ref l), some (.int most)] (m.set k (l, r')) (fun ds m2 => R__law_taken G (.ref l :: .int b :: ds) m2 (Ends2 (fun d2 m2 => ∃ d, OpD G.K (rI0 fun i j => .int (i + j)) (.int 1) d2 m2 d ∧ PD d m2) noX)) := fun b hb hb2 =>
      ea_nilP ⟨l, b, rfl, by omega, by omega, k, r', hk', hr', fun y r2 hy hy2 hr2 => ⟨_, od_I0 fun _ => .int _, by rw [set_set]; exact q _ _ (by omega) (by omega) hr2⟩⟩
    rcases (by omega : x = 0 ∨ x = 1) with rfl | rfl
    · exact ⟨.int 3, od_ixL rfl, fin 3 (by decide) h3⟩
    · exact ⟨.int most, od_ixL rfl, fin most h3 (Int.le_refl _)⟩
  refine s_retP (ev_lstP (ea_consP (one hk hr fun a r' ha ha2 hr' => ea_consP (one (set_at hk) hr' fun b r2 hb hb2 hr2 => ea_nilP ⟨?_, by simp⟩))))
  rw [set_set]
  exact p a b r2 ha ha2 hb hb2 hr2
end RA
set_option Elab.async false
set_option linter.all false
set_option maxRecDepth 100000
set_option maxHeartbeats 4000000
namespace RA
open PySem PySem.Spec PyProof.Rows L2 Evl
/-! the walk over a reading -/
local macro_rules | `(tactic| walk_at "ra1") => `(tactic| first
  | exact ev_int
  | exact ev_bl
  | exact ev_non
  | exact ev_str
  | exact ev_ty
  | exact ev_ref
  | (refine ev_var ?_; rfl)
  | exact ea_nil
  | apply ea_cons
  | apply ev_opI0
  | apply ev_opB0
  | apply ev_opI
  | refine ev_neg ?_
  | apply ev_ixT
  | (show atI _ _ = some _; rfl)
  | refine ev_tup ?_ (by first | decide | simp)
  | apply ev_cb
  | apply ev_call
  | refine et_test ?_
  | refine et_B ?_
  | refine et_not ?_
  | exact et_yes)
local macro_rules | `(tactic| walk_at "ra") => `(tactic| repeat' (walk_at "ra1"))
variable {G : Gam} {ds : List D} {m : Mem} {P : Oc → Prop} {E : XK}
/-! fractions -/
theorem gt_two {ts : TSt} {i j : Nat} {a b : D} : GtD G.K (gTup G.K 2 (gCons (gName i) (gCons (gName j) gNil))) [i, j] (.tup [a, b]) ts m ((ts.set i (some a)).set j (some b)) :=
  gt_tup (gs_cons (gt_name (by simp)) (gs_cons (gt_name (by simp)) gs_nil)) rfl
theorem gl_two {ts : TSt} {i j : Nat} {a b : D} : GtD G.K (gLst G.K 2 (gCons (gName i) (gCons (gName j) gNil))) [i, j] (.lst [a, b]) ts m ((ts.set i (some a)).set j (some b)) :=
  gt_lst (gs_cons (gt_name (by simp)) (gs_cons (gt_name (by simp)) gs_nil)) rfl
theorem den_lt {n : Nat} {q : Rat} (h : Sz n q) : ((q.den : Int)).natAbs < 2 ^ n := by simpa using h.den
theorem cw_nd {n k : Nat} {p q : Rat} (hp : Sz n p) (hq : Sz k q) (h : n + k ≤ 900000) : CMulW p.num q.den := cmulW hp.num (den_lt hq) h
theorem cw_dn {n k : Nat} {p q : Rat} (hp : Sz n p) (hq : Sz k q) (h : n + k ≤ 900000) : CMulW p.den q.num := cmulW (den_lt hp) hq.num h
theorem cw_dd {n k : Nat} {p q : Rat} (hp : Sz n p) (hq : Sz k q) (h : n + k ≤ 900000) : CMulW p.den q.den := cmulW (den_lt hp) (den_lt hq) h
theorem cw_nn {n k : Nat} {p q : Rat} (hp : Sz n p) (hq : Sz k q) (h : n + k ≤ 900000) : CMulW p.num q.num := cmulW hp.num hq.num h
theorem sm9 {a : Int} {n : Nat} (h : a.natAbs < 2 ^ n) (hn : n ≤ 9000) : small9 a := two_lt h hn
theorem p_added (h : R_added G ds m P) : ExS G.K E (t_added G E) (startT n_added ds) m (Fin P) := by
  obtain ⟨p, q, n, k, rfl, hp, hq, hn, h⟩ := h
  show ExS G.K E (t_added G E) [some (.tup [.int p.num, .int p.den]), some (.tup [.int q.num, .int q.den])] m (Fin P)
  rw [← add_eq] at h
  refine s_ret (ev_call (by walk_at "ra" <;> first | exact cw_nd hp hq (by omega) | exact cw_nd hq hp (by omega) | exact cw_dd hp hq (by omega)) ⟨_, _, rfl, dd_ne p q, sm9 (sz_addN hp hq) (by omega), sm9 (sz_den hp hq) (by omega), rfl, rfl⟩) h
theorem p_less (h : R_less G ds m P) : ExS G.K E (t_less G E) (startT n_less ds) m (Fin P) := by
  obtain ⟨p, q, n, k, rfl, hp, hq, hn, h⟩ := h
  show ExS G.K E (t_less G E) [some (.tup [.int p.num, .int p.den]), some (.tup [.int q.num, .int q.den])] m (Fin P)
  rw [← sub_eq] at h
  refine s_ret (ev_call (by walk_at "ra" <;> first | exact cw_nd hp hq (by omega) | exact cw_nd hq hp (by omega) | exact cw_dd hp hq (by omega)) ⟨_, _, rfl, dd_ne p q, sm9 (sz_subN hp hq) (by omega), sm9 (sz_den hp hq) (by omega), rfl, rfl⟩) h
theorem p_product (h : R_product G ds m P) : ExS G.K E (t_product G E) (startT n_product ds) m (Fin P) := by
  obtain ⟨p, q, n, k, rfl, hp, hq, hn, h⟩ := h
  show ExS G.K E (t_product G E) [some (.tup [.int p.num, .int p.den]), some (.tup [.int q.num, .int q.den])] m (Fin P)
  rw [← mul_eq] at h
  refine s_ret (ev_call (by walk_at "ra" <;> first | exact cw_nn hp hq (by omega) | exact cw_dd hp hq (by omega)) ⟨_, _, rfl, dd_ne p q, sm9 (sz_mulN hp hq) (by omega), sm9 (sz_den hp hq) (by omega), rfl, rfl⟩) h
theorem p_over (h : R_over G ds m P) : ExS G.K E (t_over G E) (startT n_over ds) m (Fin P) := by
  obtain ⟨p, q, n, k, rfl, hp, hq, hn, h0, h⟩ := h
  show ExS G.K E (t_over G E) [some (.tup [.int p.num, .int p.den]), some (.tup [.int q.num, .int q.den])] m (Fin P)
  rw [← div_eq] at h
  refine s_ret (ev_call (by walk_at "ra" <;> first | exact cw_nd hp hq (by omega) | exact cw_dn hp hq (by omega)) ⟨_, _, rfl, Int.mul_ne_zero (den_ne p) (num_ne h0), sm9 (sz_num hp hq) (by omega), sm9 (sz_divD hp hq) (by omega), rfl, rfl⟩) h
theorem p_is_less (h : R_is_less G ds m P) : ExS G.K E (t_is_less G E) (startT n_is_less ds) m (Fin P) := by
  obtain ⟨p, q, n, k, rfl, hp, hq, hn, h⟩ := h
  show ExS G.K E (t_is_less G E) [some (.tup [.int p.num, .int p.den]), some (.tup [.int q.num, .int q.den])] m (Fin P)
  have e : decide (p < q) = decide (p.num * (q.den : Int) < q.num * p.den) := by rw [decide_eq_decide]; exact Rat.lt_iff p q
  rw [e] at h
  refine s_ret (by walk_at "ra" <;> first | exact cw_nd hp hq (by omega) | exact cw_nd hq hp (by omega)) h
theorem p_raised (h : R_raised G ds m P) : ExS G.K E (t_raised G E) (startT n_raised ds) m (Fin P) := by
  obtain ⟨p, i, n, rfl, hp, hn, hi, hl, hi2, h⟩ := h
  show ExS G.K E (t_raised G E) [some (.tup [.int p.num, .int p.den]), some (.int i), none, none, none] m (Fin P)
  rw [← pow_parts] at h
  refine s_seq (s_asgGP (EvD.p (d := .tup [.int 1, .int 1]) (by walk_at "ra") ⟨_, _, gt_two, ?_⟩))
  show ExS G.K E _ [some (.tup [.int p.num, .int p.den]), some (.int i), some (.int 1), some (.int 1), none] m (Fin P)
  refine s_seq (s_for (wk_rng1 (n := i) (by walk_at "ra") (by omega) (by omega))
    (fun a ts m1 => ∃ o, m1 = m ∧ a ≤ i.toNat ∧ ts = [some (.tup [.int p.num, .int p.den]), some (.int i), some (.int (p.num ^ a)), some (.int ((p.den : Int) ^ a)), o])
    ⟨none, rfl, by omega, by rw [Int.pow_zero, Int.pow_zero]⟩ (fun _ _ _ _ => trivial) ?_ ?_)
  · rintro a dt ts1 m1 ha ⟨o, rfl, hl2, rfl⟩
    have ha' : a < i.toNat := by
      have := (List.getElem?_eq_some_iff.mp ha).1
      simpa [rngD] using this
    refine ⟨_, _, gt_nm, ?_⟩
    show ExS G.K E _ [some (.tup [.int p.num, .int p.den]), some (.int i), some (.int (p.num ^ a)), some (.int ((p.den : Int) ^ a)), some dt] m1 _
    have b1 : n * a + 1 ≤ n * i.toNat + 1 := Nat.succ_le_succ (Nat.mul_le_mul_left _ (by omega))
    have b2 : n ≤ n * i.toNat := Nat.le_mul_of_pos_right _ (by omega)
    refine s_par (d1 := .int (p.num ^ a * p.num)) (d2 := .int ((p.den : Int) ^ a * p.den)) (by
      walk_at "ra"
      · exact cmulW (pow_lt hp.num hn a) hp.num (by omega)
      · exact cmulW (pow_lt (den_lt hp) hn a) (den_lt hp) (by omega)) ?_
    refine ⟨some dt, rfl, by omega, ?_⟩
    rw [Int.pow_succ, Int.pow_succ]; rfl
  · rintro ts1 m1 ⟨o, rfl, hl2, rfl⟩
    have e : (rngD 0 i).length = i.toNat := by simp [rngD]
    rw [e]
    refine s_ret (ev_call (by walk_at "ra") ⟨_, _, rfl, Int.pow_ne_zero (den_ne p), sm9 (pow_lt hp.num hn _) (by omega), sm9 (pow_lt (den_lt hp) hn _) (by omega), rfl, rfl⟩) h
/-! the law's own -/
theorem p__law_frac (h : R__law_frac G ds m P) : ExS G.K E (t__law_frac G E) (startT n__law_frac ds) m (Fin P) := by
  obtain ⟨a, b, rfl, h0, ha, hb, p⟩ := h
  show ExS G.K E (t__law_frac G E) [some (.int a), some (.int b), none, none] m (Fin P)
  refine s_seq (s_par (d1 := .int (if a < 0 then -a else a)) (d2 := .int b) (ea_cons (ev_cb (by walk_at "ra") cb_abs) (by walk_at "ra")) ?_)
  rw [abs_if]
  show ExS G.K E _ [some (.int a), some (.int b), some (.int a.natAbs), some (.int b)] m (Fin P)
  refine s_seq (s_while (fun n ts1 m1 => ∃ x y : Int, ts1 = [some (.int a), some (.int b), some (.int x), some (.int y)] ∧ m1 = m ∧ 0 ≤ x ∧ 0 ≤ y ∧ n = y.toNat ∧ Int.gcd x y = Int.gcd a b) b.toNat ?_ ?_)
  · exact ⟨_, _, rfl, rfl, by omega, by omega, rfl, by simp [Int.gcd]⟩
  · rintro n ts1 m1 ⟨x, y, rfl, rfl, hx, hy, rfl, hg⟩
    refine ⟨decide (0 < y), ?_, fun c => ?_, fun c => ?_⟩
    · walk_at "ra"
    · have c : 0 < y := of_decide_eq_true c
      refine s_par (d1 := .int y) (d2 := .int (x % y)) (ea_cons (by walk_at "ra") (ea_cons (by walk_at "ra"; exact c) ea_nil)) ?_
      have h1 := Int.emod_nonneg x (by omega : y ≠ 0)
      have h2 := Int.emod_lt_of_pos x c
      exact ⟨(x % y).toNat, by omega, y, x % y, rfl, rfl, hy, h1, rfl, by rw [gcd_mod, hg]⟩
    · have c : y = 0 := by
        have := of_decide_eq_false c
        omega
      subst c
      have e : (x : Int) = (Int.gcd a b : Int) := by
        rw [← hg]; simp [Int.gcd]; omega
      obtain ⟨g1, g2⟩ := gcd_small (a := a) (by omega : b ≠ 0) hb
      rw [frac_pos h0] at p
      rw [e]
      refine s_ret (by walk_at "ra" <;> exact cdivW g1 g2) p
theorem p__law_sum (h : R__law_sum G ds m P) : ExS G.K E (t__law_sum G E) (startT n__law_sum ds) m (Fin P) := by
  obtain ⟨p, q, n, k, rfl, hp, hq, hn, h⟩ := h
  show ExS G.K E (t__law_sum G E) [some (.tup [.int p.num, .int p.den]), some (.tup [.int q.num, .int q.den])] m (Fin P)
  rw [← add_eq] at h
  refine s_ret (ev_call (by walk_at "ra" <;> first | exact cw_nd hp hq (by omega) | exact cw_nd hq hp (by omega) | exact cw_dd hp hq (by omega)) ⟨_, _, rfl, Int.mul_pos (by have := p.den_pos; omega) (by have := q.den_pos; omega), sm9 (sz_addN hp hq) (by omega), sm9 (sz_den hp hq) (by omega), rfl, rfl⟩) h
theorem p__law_times (h : R__law_times G ds m P) : ExS G.K E (t__law_times G E) (startT n__law_times ds) m (Fin P) := by
  obtain ⟨p, q, n, k, rfl, hp, hq, hn, h⟩ := h
  show ExS G.K E (t__law_times G E) [some (.tup [.int p.num, .int p.den]), some (.tup [.int q.num, .int q.den])] m (Fin P)
  rw [← mul_eq] at h
  refine s_ret (ev_call (by walk_at "ra" <;> first | exact cw_nn hp hq (by omega) | exact cw_dd hp hq (by omega)) ⟨_, _, rfl, Int.mul_pos (by have := p.den_pos; omega) (by have := q.den_pos; omega), sm9 (sz_mulN hp hq) (by omega), sm9 (sz_den hp hq) (by omega), rfl, rfl⟩) h
theorem sm_share {i : Int} (h : i.natAbs < 100) : small9 i := Nat.lt_of_lt_of_le h (by decide +kernel)
theorem p__law_shares (h : R__law_shares G ds m P) : ExS G.K E (t__law_shares G E) (startT n__law_shares ds) m (Fin P) := by
  obtain ⟨u, d, rfl, hu, hd, h⟩ := h
  show ExS G.K E (t__law_shares G E) [some (.tup [.int u, .int d])] m (Fin P)
  unfold Share at hu hd
  refine s_ret (ev_lst (ea_cons (ev_call (by walk_at "ra") ⟨u, u + d, rfl, by omega, sm_share (by omega), sm_share (by omega), rfl, rfl⟩) (ea_cons (ev_call (by walk_at "ra") ⟨d, u + d, rfl, by omega, sm_share (by omega), sm_share (by omega), rfl, rfl⟩) ea_nil)) (by simp)) ?_
  have e : Rat.divInt d (u + d) = pOf d u := by unfold pOf; rw [Int.add_comm]
  rw [e]
  exact h
end RA
set_option Elab.async false
set_option linter.all false
set_option maxRecDepth 100000
set_option maxHeartbeats 4000000
namespace RA
open PySem PySem.Spec PyProof.Rows L2 Evl
/-! the walk over a reading -/
local macro_rules | `(tactic| walk_at "ra1") => `(tactic| first
  | exact ev_int
  | exact ev_bl
  | exact ev_non
  | exact ev_str
  | exact ev_ty
  | exact ev_ref
  | (refine ev_var ?_; rfl)
  | exact ea_nil
  | apply ea_cons
  | apply ev_opI0
  | apply ev_opB0
  | apply ev_opI
  | refine ev_neg ?_
  | apply ev_ixT
  | (show atI _ _ = some _; rfl)
  | refine ev_tup ?_ (by first | decide | simp)
  | apply ev_cb
  | apply ev_call
  | refine et_test ?_
  | refine et_B ?_
  | refine et_not ?_
  | exact et_yes)
local macro_rules | `(tactic| walk_at "ra") => `(tactic| repeat' (walk_at "ra1"))
variable {G : Gam} {ds : List D} {ts : TSt} {m : Mem} {P : Oc → Prop} {E : XK} {tl : TA}
/-! calls of fractions' defs -/
theorem e_added {p q : Rat} {n k : Nat} (h : EvL G.K tl ts m [frD p, frD q]) (hp : Sz n p) (hq : Sz k q) (hn : n + k < 9000 := by decide) : EvD G.K (tCall (SpD G.K (R_added G)) [] E tl) ts m (frD (p + q)) := ev_call h ⟨p, q, n, k, rfl, hp, hq, hn, rfl, rfl⟩
theorem e_less {p q : Rat} {n k : Nat} (h : EvL G.K tl ts m [frD p, frD q]) (hp : Sz n p) (hq : Sz k q) (hn : n + k < 9000 := by decide) : EvD G.K (tCall (SpD G.K (R_less G)) [] E tl) ts m (frD (p - q)) := ev_call h ⟨p, q, n, k, rfl, hp, hq, hn, rfl, rfl⟩
theorem e_product {p q : Rat} {n k : Nat} (h : EvL G.K tl ts m [frD p, frD q]) (hp : Sz n p) (hq : Sz k q) (hn : n + k < 9000 := by decide) : EvD G.K (tCall (SpD G.K (R_product G)) [] E tl) ts m (frD (p * q)) := ev_call h ⟨p, q, n, k, rfl, hp, hq, hn, rfl, rfl⟩
theorem e_over {p q : Rat} {n k : Nat} (h : EvL G.K tl ts m [frD p, frD q]) (hp : Sz n p) (hq : Sz k q) (h0 : q ≠ 0) (hn : n + k < 9000 := by decide) : EvD G.K (tCall (SpD G.K (R_over G)) [] E tl) ts m (frD (p / q)) := ev_call h ⟨p, q, n, k, rfl, hp, hq, hn, h0, rfl, rfl⟩
theorem e_is_less {p q : Rat} {n k : Nat} (h : EvL G.K tl ts m [frD p, frD q]) (hp : Sz n p) (hq : Sz k q) (hn : n + k < 9000 := by decide) : EvD G.K (tCall (SpD G.K (R_is_less G)) [] E tl) ts m (.bl (decide (p < q))) := ev_call h ⟨p, q, n, k, rfl, hp, hq, hn, rfl, rfl⟩
theorem e_raised {p : Rat} {i : Int} (h : EvL G.K tl ts m [frD p, .int i]) (hp : Sz 5 p) (h0 : 0 ≤ i) (h1 : i ≤ 250) : EvD G.K (tCall (SpD G.K (R_raised G)) [] E tl) ts m (frD (p ^ i.toNat)) := ev_call h ⟨p, i, 5, rfl, hp, by decide, h0, by omega, by omega, rfl, rfl⟩
theorem e_lsum {p q : Rat} {n k : Nat} (h : EvL G.K tl ts m [frD p, frD q]) (hp : Sz n p) (hq : Sz k q) (hn : n + k < 9000 := by decide) : EvD G.K (tCall (SpD G.K (R__law_sum G)) [] E tl) ts m (frD (p + q)) := ev_call h ⟨p, q, n, k, rfl, hp, hq, hn, rfl, rfl⟩
theorem e_ltimes {p q : Rat} {n k : Nat} (h : EvL G.K tl ts m [frD p, frD q]) (hp : Sz n p) (hq : Sz k q) (hn : n + k < 9000 := by decide) : EvD G.K (tCall (SpD G.K (R__law_times G)) [] E tl) ts m (frD (p * q)) := ev_call h ⟨p, q, n, k, rfl, hp, hq, hn, rfl, rfl⟩
theorem e_shares {u d : Int} (h : EvL G.K tl ts m [pairD u d]) (hu : Share u) (hd : Share d) : EvD G.K (tCall (SpD G.K (R__law_shares G)) [] E tl) ts m (.lst [frD (pOf u d), frD (pOf d u)]) := ev_call h ⟨u, d, rfl, hu, hd, rfl, rfl⟩
/-! the tuples of the text -/
theorem frD_one : frD 1 = .tup [.int 1, .int 1] := rfl
theorem frD_zero : frD 0 = .tup [.int 0, .int 1] := rfl
theorem ev_ONE (T : ConsOk G) : EvD G.K (tC (.ref G.vONE)) ts m (frD 1) := ev_val fun H => .tup (T.one H) (.cons (.int 1) (.cons (.int 1) .nil))
theorem ev_NOUGHT (T : NoughtOk G) : EvD G.K (tC (.ref G.vNOUGHT)) ts m (frD 0) := ev_val fun H => .tup (T.nought H) (.cons (.int 0) (.cons (.int 1) .nil))
/-! fields of coins -/
theorem e_ahead {te : TE} {u d : Int} (T : CoinOk G) (h : EvD G.K te ts m (coinD G u d)) : EvD G.K (tFld G.K te "ahead") ts m (frD (pOf u d)) := ev_fld h T.ins.cl T.ahead (lk_ahead u d)
theorem e_behind {te : TE} {u d : Int} (T : CoinOk G) (h : EvD G.K te ts m (coinD G u d)) : EvD G.K (tFld G.K te "behind") ts m (frD (pOf d u)) := ev_fld h T.ins.cl T.behind (lk_behind u d)
theorem e_up {te : TE} {u d : Int} (T : CoinOk G) (h : EvD G.K te ts m (coinD G u d)) : EvD G.K (tFld G.K te "up") ts m (.int u) := ev_fld h T.ins.cl T.up (lk_up u d)
theorem e_down {te : TE} {u d : Int} (T : CoinOk G) (h : EvD G.K te ts m (coinD G u d)) : EvD G.K (tFld G.K te "down") ts m (.int d) := ev_fld h T.ins.cl T.down (lk_down u d)
theorem p_powers (T : CoinOk G) (h : R_powers G ds m P) : ExS G.K E (t_powers G E) (startT n_powers ds) m (Fin P) := by
  obtain ⟨u, d, j, k, rfl, hu, hd, hj, hk, h⟩ := h
  show ExS G.K E (t_powers G E) [some (coinD G u d), some (.int j), some (.int k)] m (Fin P)
  unfold Run at hj hk
  exact s_ret (ev_tup (ea_cons (e_raised (ea_cons (e_ahead T (ev_var rfl)) (by walk_at "ra")) (sz_pOf hu hd) (by omega) (by omega)) (ea_cons (e_raised (ea_cons (e_behind T (ev_var rfl)) (by walk_at "ra")) (sz_pOf hd hu) (by omega) (by omega)) ea_nil)) (by simp)) h
theorem p_ends_of (h : R_ends_of G ds m P) : ExS G.K E (t_ends_of G E) (startT n_ends_of ds) m (Fin P) := by
  obtain ⟨p, q, n, k, rfl, hp, hq, hn, h⟩ := h
  show ExS G.K E (t_ends_of G E) [some (frD p), some (frD q)] m (Fin P)
  exact s_ret (e_less (ea_cons (e_added (by walk_at "ra") hp hq (by omega)) (ea_cons (e_product (by walk_at "ra") hp hq (by omega)) ea_nil)) (hp.add hq) (hp.mul hq) (by omega)) h
theorem e_powers {u d j k : Int} (h : EvL G.K tl ts m [coinD G u d, .int j, .int k]) (hu : Share u) (hd : Share d) (hj : Run j) (hk : Run k) : EvD G.K (tCall (SpD G.K (R_powers G)) [] E tl) ts m (.tup [frD (pOf u d ^ (j - 1).toNat), frD (pOf d u ^ (k - 1).toNat)]) :=
  ev_call h ⟨u, d, j, k, rfl, hu, hd, hj, hk, rfl, rfl⟩
theorem e_ends {p q : Rat} {n k : Nat} (h : EvL G.K tl ts m [frD p, frD q]) (hp : Sz n p) (hq : Sz k q) (hn : n + k < 4000 := by decide) : EvD G.K (tCall (SpD G.K (R_ends_of G)) [] E tl) ts m (frD (endsR p q)) := ev_call h ⟨p, q, n, k, rfl, hp, hq, hn, rfl, rfl⟩
theorem p_begun (T : CoinOk G) (C : ConsOk G) (h : R_begun G ds m P) : ExS G.K E (t_begun G E) (startT n_begun ds) m (Fin P) := by
  obtain ⟨u, d, j, k, rfl, hu, hd, hj, hk, h⟩ := h
  show ExS G.K E (t_begun G E) [some (coinD G u d), some (.int j), some (.int k), none, none, none] m (Fin P)
  have x := pw_x hu hd hj hk
  have y := pw_x hd hu hk hj
  refine s_seq (s_asgGP ((e_powers (by walk_at "ra") hu hd hj hk).p ⟨_, _, gt_two, ?_⟩))
  show ExS G.K E _ [some (coinD G u d), some (.int j), some (.int k), some (frD (pOf u d ^ (j - 1).toNat)), some (frD (pOf d u ^ (k - 1).toNat)), none] m (Fin P)
  refine s_seq (s_asg (d := frD (headR (pOf u d) (pOf d u) j k)) (e_over (ea_cons (ev_var rfl) (ea_cons (e_ends (by walk_at "ra") x.1 y.1) ea_nil)) x.1 (sz_endsX hu hd hj hk) (ends_ne hu hd hj hk)) ?_)
  show ExS G.K E _ [some (coinD G u d), some (.int j), some (.int k), some (frD (pOf u d ^ (j - 1).toNat)), some (frD (pOf d u ^ (k - 1).toNat)), some (frD (headR (pOf u d) (pOf d u) j k))] m (Fin P)
  exact s_ret (ev_tup (ea_cons (ev_var rfl) (ea_cons (e_product (ea_cons (e_less (ea_cons (ev_ONE C) (by walk_at "ra")) sz_one y.1) (by walk_at "ra")) (sz_down hu hd hj hk) (sz_head hu hd hj hk)) ea_nil)) (by simp)) h
theorem e_begun {u d j k : Int} (h : EvL G.K tl ts m [coinD G u d, .int j, .int k]) (hu : Share u) (hd : Share d) (hj : Run j) (hk : Run k) : EvD G.K (tCall (SpD G.K (R_begun G)) [] E tl) ts m (.tup [frD (headR (pOf u d) (pOf d u) j k), frD (tailR (pOf u d) (pOf d u) j k)]) :=
  ev_call h ⟨u, d, j, k, rfl, hu, hd, hj, hk, rfl, rfl⟩
theorem p_chance_by (T : CoinOk G) (C : ConsOk G) (h : R_chance_by G ds m P) : ExS G.K E (t_chance_by G E) (startT n_chance_by ds) m (Fin P) := by
  obtain ⟨u, d, j, k, s, rfl, hu, hd, hj, hk, h1, h2, h⟩ := h
  show ExS G.K E (t_chance_by G E) [some (coinD G u d), some (.int j), some (.int k), some (.int s), none, none, none] m (Fin P)
  have sh := sz_head hu hd hj hk
  have st := sz_tail hu hd hj hk
  unfold chanceR at h
  have hj' := hj
  have hk' := hk
  unfold Run at hj' hk'
  refine s_seq (s_asgGP ((e_begun (by walk_at "ra") hu hd hj hk).p ⟨_, _, gt_two, ?_⟩))
  show ExS G.K E _ [some (coinD G u d), some (.int j), some (.int k), some (.int s), some (frD (headR (pOf u d) (pOf d u) j k)), some (frD (tailR (pOf u d) (pOf d u) j k)), none] m (Fin P)
  refine s_seq (s_if (b := decide (s = 0)) (et_test (ev_eq (d1 := .int s) (d2 := .int 0) (by walk_at "ra") ev_int rfl)) (fun c => ?_) (fun c => ?_))
  · rw [if_pos (of_decide_eq_true c)] at h
    exact s_ret (e_added (ea_cons (e_product (ea_cons (e_ahead T (ev_var rfl)) (by walk_at "ra")) (sz_pOf hu hd) sh) (ea_cons (e_product (ea_cons (e_behind T (ev_var rfl)) (by walk_at "ra")) (sz_pOf hd hu) st) ea_nil)) ((sz_pOf hu hd).mul sh) ((sz_pOf hd hu).mul st)) h
  have c0 : ¬ s = 0 := of_decide_eq_false c
  rw [if_neg c0] at h
  refine s_next ?_
  refine s_seq (s_if (b := decide (0 < s)) (by walk_at "ra") (fun c => ?_) (fun c => ?_))
  · have c1 : 0 < s := of_decide_eq_true c
    rw [if_pos c1] at h
    have w := Sz.pw hu hd (i := j - s) (by omega) (by omega)
    refine s_seq (s_asg (d := frD (pOf u d ^ (j - s).toNat)) (e_raised (ea_cons (e_ahead T (ev_var rfl)) (by walk_at "ra")) (sz_pOf hu hd) (by omega) (by omega)) ?_)
    show ExS G.K E _ [some (coinD G u d), some (.int j), some (.int k), some (.int s), some (frD (headR (pOf u d) (pOf d u) j k)), some (frD (tailR (pOf u d) (pOf d u) j k)), some (frD (pOf u d ^ (j - s).toNat))] m _
    refine s_ret (e_added (ea_cons (ev_var rfl) (ea_cons (e_product (ea_cons (e_less (ea_cons (ev_ONE C) (by walk_at "ra")) sz_one w) (by walk_at "ra")) (sz_one.sub w) st) ea_nil)) w ((sz_one.sub w).mul st)) h
  · have c1 : ¬ 0 < s := of_decide_eq_false c
    rw [if_neg c1] at h
    refine s_next ?_
    have w := Sz.pw hd hu (i := k + s) (by omega) (by omega)
    refine s_ret (e_product (ea_cons (e_less (ea_cons (ev_ONE C) (ea_cons (e_raised (ea_cons (e_behind T (ev_var rfl)) (by walk_at "ra")) (sz_pOf hd hu) (by omega) (by omega)) ea_nil)) sz_one w) (by walk_at "ra")) (sz_one.sub w) sh) h
/-! what is no run, no state -/
theorem p_need_run (h : R_need_run G ds m P) : ExS G.K E (t_need_run G E) (startT n_need_run ds) m (Fin P) := by
  obtain ⟨d, most, rfl, hf, h⟩ := h
  show ExS G.K E (t_need_run G E) [some d, some (.int most)] m (Fin P)
  unfold runOc at h
  refine s_if (b := !withinD d 1 most) (et_not (et_B (ev_call (by walk_at "ra") ⟨d, 1, most, rfl, hf, rfl, rfl⟩))) (fun c => ?_) (fun c => ?_)
  · rw [Bool.not_eq_true'] at c
    rw [c] at h
    exact s_raise1 (by walk_at "ra") h
  · rw [Bool.not_eq_false'] at c
    rw [c] at h
    exact s_next h
theorem p_need_runs (h : R_need_runs G ds m P) : ExS G.K E (t_need_runs G E) (startT n_need_runs ds) m (Fin P) := by
  obtain ⟨d, e, most, rfl, hd, he, h⟩ := h
  show ExS G.K E (t_need_runs G E) [some d, some e, some (.int most)] m (Fin P)
  unfold runOc at h
  refine s_seq (s_dropX (ev_callX (EvL.p (ds := [d, .int most]) (by walk_at "ra") ⟨d, most, rfl, hd, ?_⟩)))
  unfold runOc
  cases c : withinD d 1 most with
  | false =>
    rw [c] at h
    exact h
  | true =>
    rw [c] at h
    refine s_dropX (ev_callX (EvL.p (ds := [e, .int most]) (by walk_at "ra") ⟨e, most, rfl, he, ?_⟩))
    unfold runOc
    cases c2 : withinD e 1 most with
    | false =>
      rw [c2] at h
      exact h
    | true =>
      rw [c2] at h
      exact h
theorem p_need_state (h : R_need_state G ds m P) : ExS G.K E (t_need_state G E) (startT n_need_state ds) m (Fin P) := by
  obtain ⟨j, k, d, rfl, hf, h⟩ := h
  show ExS G.K E (t_need_state G E) [some (.int j), some (.int k), some d] m (Fin P)
  unfold stateOc at h
  refine s_if (b := !withinD d (1 - k) (j - 1)) (et_not (et_B (ev_call (by walk_at "ra") ⟨d, 1 - k, j - 1, rfl, hf, rfl, rfl⟩))) (fun c => ?_) (fun c => ?_)
  · rw [Bool.not_eq_true'] at c
    rw [c] at h
    exact s_raise0 h
  · rw [Bool.not_eq_false'] at c
    rw [c] at h
    exact s_next h
theorem within_int {d : D} {lo hi : Int} (h : withinD d lo hi = true) : d = .int (intD d) ∧ lo ≤ intD d ∧ intD d ≤ hi := by
  cases d <;> simp only [withinD, Bool.false_eq_true, Bool.and_eq_true, decide_eq_true_eq] at h
  exact ⟨rfl, h⟩
theorem s_need_runs {t : TS} {PO : Oc → Prop} {d e : D} {most : Int} (ha : EvL G.K tl ts m [d, e, .int most]) (hd : Flat d) (he : Flat e) {o : Oc} (hP : PO (runOc G d most m (runOc G e most m o)))
    (hg : withinD d 1 most = true → withinD e 1 most = true → PO o → ExS G.K E t ts m PO) : ExS G.K E (tSeq (tDrop (tCall (SpD G.K (R_need_runs G)) [] E tl)) t) ts m PO := by
  refine s_seq (s_dropX (ev_callX (ha.p ⟨d, e, most, rfl, hd, he, ?_⟩)))
  unfold runOc at hP ⊢
  cases c : withinD d 1 most with
  | false =>
    rw [c] at hP
    exact hP
  | true =>
    rw [c] at hP
    cases c2 : withinD e 1 most with
    | false =>
      rw [c2] at hP
      exact hP
    | true =>
      rw [c2] at hP
      exact hg c c2 hP
theorem s_need_state {t : TS} {PO : Oc → Prop} {d : D} {j k : Int} (ha : EvL G.K tl ts m [.int j, .int k, d]) (hd : Flat d) {o : Oc} (hP : PO (stateOc G j k d m o))
    (hg : withinD d (1 - k) (j - 1) = true → PO o → ExS G.K E t ts m PO) : ExS G.K E (tSeq (tDrop (tCall (SpD G.K (R_need_state G)) [] E tl)) t) ts m PO := by
  refine s_seq (s_dropX (ev_callX (ha.p ⟨j, k, d, rfl, hd, ?_⟩)))
  unfold stateOc at hP ⊢
  cases c : withinD d (1 - k) (j - 1) with
  | false =>
    rw [c] at hP
    exact hP
  | true =>
    rw [c] at hP
    exact hg c hP
theorem fin_run {d : D} {most : Int} {o : Oc} (h : P (runOc G d most m o)) (h0 : P o → Fin P o) : Fin P (runOc G d most m o) := by
  unfold runOc at *
  split
  · rename_i c; rw [if_pos c] at h; exact h0 h
  · rename_i c; rw [if_neg c] at h; exact h
theorem fin_state {d : D} {j k : Int} {o : Oc} (h : P (stateOc G j k d m o)) (h0 : P o → Fin P o) : Fin P (stateOc G j k d m o) := by
  unfold stateOc at *
  split
  · rename_i c; rw [if_pos c] at h; exact h0 h
  · rename_i c; rw [if_neg c] at h; exact h
theorem p_chance (h : R_chance G ds m P) : ExS G.K E (t_chance G E) (startT n_chance ds) m (Fin P) := by
  obtain ⟨u, d, j, k, s, rfl, hu, hd, fj, fk, fs, h⟩ := h
  show ExS G.K E (t_chance G E) [some (coinD G u d), some j, some k, some s] m (Fin P)
  refine s_need_runs (d := j) (e := k) (most := 40) (o := stateOc G (intD j) (intD k) s m (.rt (frD (chanceR (pOf u d) (pOf d u) (intD j) (intD k) (intD s))) m)) (by walk_at "ra") fj fk
    (fin_run h fun h => fin_run h fun h => fin_state h id) (fun cj ck h => ?_)
  obtain ⟨ej, j1, j2⟩ := within_int cj
  obtain ⟨ek, k1, k2⟩ := within_int ck
  rw [ej, ek] at *
  show ExS G.K E _ [some (coinD G u d), some (.int (intD j)), some (.int (intD k)), some s] m (Fin P)
  refine s_need_state (d := s) (j := intD j) (k := intD k) (by walk_at "ra") fs h (fun cs h => ?_)
  obtain ⟨es, s1, s2⟩ := within_int cs
  rw [es]
  refine s_ret (ev_call (by walk_at "ra") ⟨u, d, intD j, intD k, intD s, rfl, hu, hd, ⟨j1, j2⟩, ⟨k1, k2⟩, s1, s2, rfl, rfl⟩) h
end RA
set_option linter.all false
set_option maxHeartbeats 4000000
/-! Chances from the start: sums, orders. -/
namespace RA
open PySem PySem.Spec PyProof.Rows L2 Evl
theorem div_lt_div {a b e f : Rat} (he : 0 < e) (hf : 0 < f) (h : a * f < b * e) : a / e < b / f := by
  have i1 : 0 < (e * f)⁻¹ := Rat.inv_pos.mpr (Rat.mul_pos he hf)
  have i2 : 0 < (b * e - a * f) * (e * f)⁻¹ := Rat.mul_pos (by grind) i1
  have i3 : b / f - a / e = (b * e - a * f) * (e * f)⁻¹ := by grind
  grind
theorem chance0 {p q : Rat} (hs : p + q = 1) (j k : Int) (he : endsR (p ^ (j - 1).toNat) (q ^ (k - 1).toNat) ≠ 0) :
    chanceR p q j k 0 = p ^ (j - 1).toNat * (1 - q * q ^ (k - 1).toNat) / endsR (p ^ (j - 1).toNat) (q ^ (k - 1).toNat) := by
  unfold chanceR tailR headR
  rw [if_pos rfl]
  generalize endsR (p ^ (j - 1).toNat) (q ^ (k - 1).toNat) = e at *
  generalize p ^ (j - 1).toNat = x at *
  generalize q ^ (k - 1).toNat = y at *
  grind
theorem ends_comm (x y : Rat) : endsR x y = endsR y x := by unfold endsR; grind
theorem chance_both {p q : Rat} (hs : p + q = 1) (j k : Int) (he : endsR (p ^ (j - 1).toNat) (q ^ (k - 1).toNat) ≠ 0) : chanceR p q j k 0 + chanceR q p k j 0 = 1 := by
  have he2 : endsR (q ^ (k - 1).toNat) (p ^ (j - 1).toNat) ≠ 0 := by rw [ends_comm]; exact he
  rw [chance0 hs j k he, chance0 (by grind) k j he2]
  rw [ends_comm (q ^ (k - 1).toNat)]
  have e : endsR (p ^ (j - 1).toNat) (q ^ (k - 1).toNat) = p ^ (j - 1).toNat + q ^ (k - 1).toNat - p ^ (j - 1).toNat * q ^ (k - 1).toNat := rfl
  generalize endsR (p ^ (j - 1).toNat) (q ^ (k - 1).toNat) = e at *
  generalize p ^ (j - 1).toNat = x at *
  generalize q ^ (k - 1).toNat = y at *
  grind
theorem toNat_up {j : Int} (h : 1 ≤ j) : (j + 1 - 1).toNat = (j - 1).toNat + 1 := by omega
theorem mul_lt_one {q y : Rat} (hq : 0 < q) (h1 : q < 1) (hy : 0 < y) (h2 : y ≤ 1) : q * y < 1 := by
  have : q * y ≤ q * 1 := Rat.mul_le_mul_of_nonneg_left h2 (by grind)
  grind
theorem chance_up {p q : Rat} (hs : p + q = 1) (hp : 0 < p) (hq : 0 < q) {j k : Int} (hj : 1 ≤ j) : chanceR p q (j + 1) k 0 < chanceR p q j k 0 := by
  have xp := pow_pos' hp (j - 1).toNat
  have yp := pow_pos' hq (k - 1).toNat
  have xl := pow_le' hp (by grind) (j - 1).toNat
  have yl := pow_le' hq (by grind) (k - 1).toNat
  have ep := ends_pos xp yp xl
  have x2p := pow_pos' hp (j + 1 - 1).toNat
  have x2l := pow_le' hp (by grind) (j + 1 - 1).toNat
  have e2p := ends_pos x2p yp x2l
  rw [chance0 hs _ _ (by grind), chance0 hs _ _ (by grind)]
  refine div_lt_div e2p ep ?_
  rw [toNat_up hj, Rat.pow_succ]
  have m := mul_lt_one hq (by grind) yp yl
  unfold endsR
  generalize p ^ (j - 1).toNat = x at *
  generalize q ^ (k - 1).toNat = y at *
  have t1 : 0 < x * (1 - q * y) := Rat.mul_pos xp (by grind)
  have t2 : 0 < (x * (1 - q * y)) * (y * (1 - p)) := Rat.mul_pos t1 (Rat.mul_pos yp (by grind))
  have t3 : x * (1 - q * y) * (x * p + y - x * p * y) - x * p * (1 - q * y) * (x + y - x * y) = (x * (1 - q * y)) * (y * (1 - p)) := by grind
  grind
theorem chance_down {p q : Rat} (hs : p + q = 1) (hp : 0 < p) (hq : 0 < q) {j k : Int} (hk : 1 ≤ k) : chanceR p q j k 0 < chanceR p q j (k + 1) 0 := by
  have xp := pow_pos' hp (j - 1).toNat
  have xl := pow_le' hp (by grind) (j - 1).toNat
  have e1 := chance_both hs j k (by have := ends_pos xp (pow_pos' hq (k - 1).toNat) xl; grind)
  have e2 := chance_both hs j (k + 1) (by have := ends_pos xp (pow_pos' hq (k + 1 - 1).toNat) xl; grind)
  have u := chance_up (p := q) (q := p) (by grind) hq hp (j := k) (k := j) hk
  grind
theorem chance_one {p q : Rat} : chanceR p q 1 1 0 = p := by
  unfold chanceR tailR headR endsR
  rw [if_pos rfl]
  show p * (p ^ 0 / (p ^ 0 + q ^ 0 - p ^ 0 * q ^ 0)) + q * ((1 - q ^ 0) * (p ^ 0 / (p ^ 0 + q ^ 0 - p ^ 0 * q ^ 0))) = p
  rw [Rat.pow_zero, Rat.pow_zero]
  grind
end RA
set_option linter.all false
set_option maxHeartbeats 4000000
/-! Means. -/
namespace RA
open PySem PySem.Spec PyProof.Rows L2 Evl
theorem eq_div' {a b c : Rat} (hc : c ≠ 0) (h : a * c = b) : a = b / c := by
  have h1 : a * c * c⁻¹ = b * c⁻¹ := by rw [h]
  have h2 : c * c⁻¹ = 1 := Rat.mul_inv_cancel c hc
  have h3 : a * (c * c⁻¹) = b * c⁻¹ := by rw [← h1]; grind
  rw [h2] at h3
  rw [Rat.div_def, ← h3]; grind
theorem div_mul' {a c : Rat} (hc : c ≠ 0) : a / c * c = a := by
  have h2 : c * c⁻¹ = 1 := Rat.mul_inv_cancel c hc
  rw [Rat.div_def]
  have : a * c⁻¹ * c = a * (c * c⁻¹) := by grind
  rw [this, h2]; grind
theorem mul_ne' {a b : Rat} (ha : a ≠ 0) (hb : b ≠ 0) : a * b ≠ 0 := by grind
theorem mean_alg {p q x y e : Rat} (hs : p + q = 1) (hp : p ≠ 0) (hq : q ≠ 0) (he : e ≠ 0) (hx : e = x + y - x * y) :
    1 + (p * (((1 - x) / q + (1 - x) * ((1 - y) / p)) / e) + q * (((1 - y) / p + (1 - y) * ((1 - x) / q)) / e)) = (1 - p * x) * (1 - q * y) / (p * q * e) := by
  refine eq_div' (mul_ne' (mul_ne' hp hq) he) ?_
  have hP : p * p⁻¹ = 1 := Rat.mul_inv_cancel p hp
  have hQ : q * q⁻¹ = 1 := Rat.mul_inv_cancel q hq
  have hF : e * e⁻¹ = 1 := Rat.mul_inv_cancel e he
  simp only [Rat.div_def]
  generalize p⁻¹ = P at *
  generalize q⁻¹ = Q at *
  generalize e⁻¹ = F at *
  have k : (1 + (p * (((1 - x) * Q + (1 - x) * ((1 - y) * P)) * F) + q * (((1 - y) * P + (1 - y) * ((1 - x) * Q)) * F))) * (p * q * e) =
    p * q * e + (e * F) * (p * ((1 - x) * p * (q * Q) + (1 - x) * (1 - y) * q * (p * P)) + q * ((1 - y) * q * (p * P) + (1 - y) * (1 - x) * p * (q * Q))) := by
    clear hP hQ hF hx hs hp hq he
    grind
  rw [k, hP, hQ, hF, hx]
  have e : q = 1 - p := by grind
  rw [e]
  clear k hP hQ hF hx hs hp hq he e
  grind
theorem mean0 {p q : Rat} (hs : p + q = 1) (hp : p ≠ 0) (hq : q ≠ 0) (j k : Int) (he : endsR (p ^ (j - 1).toNat) (q ^ (k - 1).toNat) ≠ 0) :
    meanR p q j k 0 = (1 - p * p ^ (j - 1).toNat) * (1 - q * q ^ (k - 1).toNat) / (p * q * endsR (p ^ (j - 1).toNat) (q ^ (k - 1).toNat)) := by
  unfold meanR headM tailM hereR
  rw [if_pos rfl]
  exact mean_alg hs hp hq he rfl
theorem until_step {p x : Rat} (hp : p ≠ 0) (h1 : 1 - p ≠ 0) (hx : x ≠ 0) : (1 - x * p) / ((1 - p) * (x * p)) = ((1 - x) / ((1 - p) * x) + 1) * p⁻¹ := by
  refine (eq_div' (mul_ne' h1 (mul_ne' hx hp)) ?_).symm
  have hP : p * p⁻¹ = 1 := Rat.mul_inv_cancel p hp
  have d := div_mul' (a := 1 - x) (mul_ne' h1 hx)
  generalize (1 - x) / ((1 - p) * x) = t at *
  generalize p⁻¹ = P at *
  have k : (t + 1) * P * ((1 - p) * (x * p)) = (t * ((1 - p) * x) + (1 - p) * x) * (p * P) := by clear hP d; grind
  rw [k, d, hP]; grind
theorem until_succ {p : Rat} (hp : 0 < p) (h1 : p < 1) (n : Nat) : untilR p ((n + 1 : Nat) : Int) = (untilR p (n : Int) + 1) * p⁻¹ := by
  unfold untilR
  have e1 : ((n + 1 : Nat) : Int).toNat = n + 1 := by omega
  have e2 : ((n : Nat) : Int).toNat = n := by omega
  rw [e1, e2, Rat.pow_succ]
  have := pow_pos' hp n
  exact until_step (by grind) (by grind) (by grind)
theorem until_zero (p : Rat) : untilR p 0 = 0 := by
  unfold untilR
  show (1 - p ^ 0) / ((1 - p) * p ^ 0) = 0
  rw [Rat.pow_zero]; grind
theorem until_run {p : Rat} {j : Int} (hj : 1 ≤ j) : untilR p j = (1 - p * p ^ (j - 1).toNat) / ((1 - p) * (p * p ^ (j - 1).toNat)) := by
  unfold untilR
  have e1 : j.toNat = (j - 1).toNat + 1 := by omega
  rw [e1, Rat.pow_succ, Rat.mul_comm p]
theorem both_alg {p q x y e : Rat} (hs : p + q = 1) (hp : p ≠ 0) (hq : q ≠ 0) (hx : x ≠ 0) (hy : y ≠ 0) (he : e ≠ 0) (hE : e = x + y - x * y) :
    (1 - p * x) / (q * (p * x)) + (1 - q * y) / (p * (q * y)) - (1 - p * x) * (1 - q * y) / (p * q * e) =
      (1 - p * x) * (1 - q * y) / (p * q * e) + ((x * (1 - q * y) / e) * ((1 - q * y) / (p * (q * y))) + (1 - x * (1 - q * y) / e) * ((1 - p * x) / (q * (p * x)))) := by
  have hu := div_mul' (a := 1 - p * x) (mul_ne' hq (mul_ne' hp hx))
  have hv := div_mul' (a := 1 - q * y) (mul_ne' hp (mul_ne' hq hy))
  have hM := div_mul' (a := (1 - p * x) * (1 - q * y)) (mul_ne' (mul_ne' hp hq) he)
  have hC := div_mul' (a := x * (1 - q * y)) he
  generalize (1 - p * x) / (q * (p * x)) = u at *
  generalize (1 - q * y) / (p * (q * y)) = v at *
  generalize (1 - p * x) * (1 - q * y) / (p * q * e) = M at *
  generalize x * (1 - q * y) / e = C at *
  have z : (v - 2 * M - C * v + C * u) * (e * (p * (q * y))) = 0 := by
    have k1 : (v - 2 * M - C * v + C * u) * (e * (p * (q * y))) = (v * (p * (q * y))) * e - 2 * (M * (p * q * e)) * y - (C * e) * (v * (p * (q * y))) + (C * e) * (u * (p * (q * y))) := by clear hu hv hM hC; grind
    rw [k1, hv, hM, hC]
    have k2 : x * (1 - q * y) * (u * (p * (q * y))) = (1 - q * y) * y * (u * (q * (p * x))) := by clear hu hv hM hC k1; grind
    rw [k2, hu, hE]
    have e2 : q = 1 - p := by grind
    rw [e2]
    clear hu hv hM hC k1 k2 e2 hE he hp hq hx hy hs
    grind
  have nz : e * (p * (q * y)) ≠ 0 := mul_ne' he (mul_ne' hp (mul_ne' hq hy))
  have z2 : v - 2 * M - C * v + C * u = 0 := by
    rcases Rat.mul_eq_zero.mp z with h | h
    · exact h
    · exact absurd h nz
  clear hu hv hM hC z nz
  grind
theorem mean_both_eq {p q : Rat} (hs : p + q = 1) (hp : 0 < p) (hq : 0 < q) {j k : Int} (hj : 1 ≤ j) (hk : 1 ≤ k) :
    untilR p j + untilR q k - meanR p q j k 0 = meanR p q j k 0 + (chanceR p q j k 0 * untilR q k + (1 - chanceR p q j k 0) * untilR p j) := by
  have xp := pow_pos' hp (j - 1).toNat
  have yp := pow_pos' hq (k - 1).toNat
  have ep := ends_pos xp yp (pow_le' hp (by grind) _)
  rw [mean0 hs (by grind) (by grind) j k (by grind), chance0 hs j k (by grind), until_run hj, until_run hk]
  have e1 : 1 - p = q := by grind
  have e2 : 1 - q = p := by grind
  rw [e1, e2]
  exact both_alg hs (by grind) (by grind) (by grind) (by grind) (by grind) rfl
/-! fractions that are written down -/
theorem frD_mk {a b : Int} (hb : 0 < b) (hg : Int.gcd a b = 1) : frD (Rat.divInt a b) = .tup [.int a, .int b] := by
  unfold frD
  rw [divInt_num_pos hb, divInt_den_pos hb, hg]
  simp
theorem gcd_red (q : Rat) : Int.gcd q.num q.den = 1 := by
  have := q.reduced
  unfold Nat.Coprime at this
  simpa [Int.gcd] using this
theorem frD_neg (q : Rat) : frD (-q) = .tup [.int (-q.num), .int q.den] := by
  unfold frD; rw [Rat.neg_num, Rat.neg_den]
theorem num_pos {q : Rat} (h : 0 < q) : 0 < q.num := by
  have a : 0 ≤ q.num := Rat.num_nonneg.mpr (by grind)
  have b : q.num ≠ 0 := num_ne (by grind)
  omega
theorem frD_inv {q : Rat} (h : 0 < q) : frD q⁻¹ = .tup [.int q.den, .int q.num] := by
  have h2 : q⁻¹ = Rat.divInt q.den q.num := by
    conv => lhs; rw [← Rat.num_divInt_den q]
    rw [Rat.inv_divInt]
  rw [h2]
  refine frD_mk (num_pos h) ?_
  rw [Int.gcd_comm]; exact gcd_red q
theorem frD_comp (q : Rat) : frD (1 - q) = .tup [.int (q.den - q.num), .int q.den] := by
  have e := sub_eq 1 q
  have e2 : (1 : Rat).num * (q.den : Int) - q.num * (1 : Rat).den = q.den - q.num := by simp
  have e3 : ((1 : Rat).den : Int) * (q.den : Int) = q.den := by simp
  rw [e2, e3] at e
  rw [← e]
  refine frD_mk (by have := q.den_pos; omega) ?_
  have g := gcd_red q
  have h : Int.gcd (q.den - q.num) q.den = Int.gcd q.num q.den := by
    rw [Int.gcd_comm, Int.gcd_comm q.num]
    exact Int.gcd_self_sub_right _ _
  rw [h, g]
theorem sz_inv {n : Nat} {q : Rat} (h : Sz n q) (h0 : q ≠ 0) : Sz (1 + n) q⁻¹ := by
  have e : q⁻¹ = 1 / q := by grind
  rw [e]
  exact sz_one.div h h0
end RA
set_option Elab.async false
set_option linter.all false
set_option maxRecDepth 100000
set_option maxHeartbeats 4000000
/-! The defs' readings (printed by gen.py). -/
namespace RA
open PySem PySem.Spec PyProof.Rows L2 Evl
/-- _law_refused: 0 _law_one, 1 _law_other, 2 _law_told -/
def n__law_refused_k01 : List Str := ["_law_one", "_law_other", "_law_told"]
def t__law_refused_k01 (G : Gam) (E : XK) : TS :=
  (tSeq (tAsg (tC (.bl false)) (gName 2))
    (tSeq (tTry G.K (fun cls d _ H => E cls d H) [((Value.ref G.cInvalidCoin), none, fun a cls d => (tAsg (tC (.bl true)) (gName 2)))] (fun W => (fun E2 : XK => (tDrop (tMake G.cCoin (SpD G.K (R_Coin_init G)) [] E2 (tCons (tVar 0) (tCons (tVar 1) tNil))))) (EW 3 W)))
    (tRet (tVar 2))))
/-- law: 0 _law_script, 1 _law_row, 2 _law_odd, 3 _law_turn, 4 _law_d, 5 _law_e, 6 _law_coin, 7 _law_other, 8 _law_k -/
def n_law_k01 : List Str := ["_law_script", "_law_row", "_law_odd", "_law_turn", "_law_d", "_law_e", "_law_coin", "_law_other", "_law_k"]
def t_law_k01 (G : Gam) (E : XK) : TS :=
  (tSeq (tAsg (tLst (tCons (tVar 0) (tCons (tC (.int 0)) (tCons (tC (.int 221)) (tCons (tC (.int 0)) tNil))))) (gName 1))
    (tSeq (tAsg (tLst (tCons (tC (.int 0)) (tCons (tC (.int 10)) (tCons (tUn (rU fun i => .int (-i)) (tC (.int 1))) (tCons (tC .non) (tCons (tC (.bl true)) (tCons (tC (.str "1")) (tCons (tTup (tCons (tC (.int 1)) tNil)) (tCons (tC (.int 1)) (tCons (tC (.int 9)) tNil)))))))))) (gName 2))
    (tSeq (tFor (iRng1 (tCons (tC (.int 4)) tNil)) (gName 3) (tSeq (tPar 4 5 (tCons (tCall (SpD G.K (R__law_drawn G)) [] E (tCons (tVar 1) tNil)) (tCons (tCall (SpD G.K (R__law_drawn G)) [] E (tCons (tVar 1) tNil)) tNil)))
    (tSeq (tPar 6 7 (tCons (tMake G.cCoin (SpD G.K (R_Coin_init G)) [] E (tCons (tOp (rIxT G.K) (tVar 4) (tC (.int 0))) (tCons (tOp (rIxT G.K) (tVar 4) (tC (.int 1))) tNil))) (tCons (tMake G.cCoin (SpD G.K (R_Coin_init G)) [] E (tCons (tOp (rIxT G.K) (tVar 5) (tC (.int 0))) (tCons (tOp (rIxT G.K) (tVar 5) (tC (.int 1))) tNil))) tNil)))
    (tSeq (tIfS (tOr (tTest (tOp (rNeD G.K) (tLst (tCons (tProp G.cCoin (SpD G.K (R_Coin_heads G)) [] E0 (tVar 6)) (tCons (tProp G.cCoin (SpD G.K (R_Coin_tails G)) [] E0 (tVar 6)) tNil))) (tCB (rListOf G.K) (tCons (tVar 4) tNil)))) (tOr (tTest (tOp (rOwnEq G.K G.cCoin (SpD G.K (R_Coin_eq G)) E0) (tVar 6) (tVar 4))) (tNot (tTest (tOp (rOwnEq G.K G.cCoin (SpD G.K (R_Coin_eq G)) E0) (tVar 6) (tMake G.cCoin (SpD G.K (R_Coin_init G)) [] E (tCons (tOp (rIxT G.K) (tVar 4) (tC (.int 0))) (tCons (tOp (rIxT G.K) (tVar 4) (tC (.int 1))) tNil)))))))) (tRet (tC (.bl false))) tNext)
    (tSeq (tIfS (tTest (tOp rNe (tOp (rOwnEq G.K G.cCoin (SpD G.K (R_Coin_eq G)) E0) (tVar 6) (tVar 7)) (tOp rEq (tOp (rI CMulW fun i j => .int (i * j)) (tOp (rIxT G.K) (tVar 4) (tC (.int 0))) (tOp (rIxT G.K) (tVar 5) (tC (.int 1)))) (tOp (rI CMulW fun i j => .int (i * j)) (tOp (rIxT G.K) (tVar 4) (tC (.int 1))) (tOp (rIxT G.K) (tVar 5) (tC (.int 0))))))) (tRet (tC (.bl false))) tNext)
    (tSeq (tAsg (tCall (SpD G.K (R__law_taken G)) [] E (tCons (tVar 1) (tCons (tCB (rLen G.K) (tCons (tVar 2) tNil)) tNil))) (gName 8))
    (tIfS (tOr (tTest (tOp rNe (tCall (SpD G.K (R__law_refused_k01 G)) [] E (tCons (tOp (rIxL G.K) (tVar 2) (tVar 8)) (tCons (tOp (rIxT G.K) (tVar 4) (tC (.int 1))) tNil))) (tOp (rI0 fun i j => .bl (decide (i < j))) (tVar 8) (tC (.int 7))))) (tTest (tOp rNe (tCall (SpD G.K (R__law_refused_k01 G)) [] E (tCons (tOp (rIxT G.K) (tVar 4) (tC (.int 0))) (tCons (tOp (rIxL G.K) (tVar 2) (tVar 8)) tNil))) (tOp (rI0 fun i j => .bl (decide (i < j))) (tVar 8) (tC (.int 7)))))) (tRet (tC (.bl false))) tNext)))))))
    (tRet (tAndV (tOp (rOwnEq G.K G.cCoin (SpD G.K (R_Coin_eq G)) E0) (tMake G.cCoin (SpD G.K (R_Coin_init G)) [] E (tCons (tC (.int 2)) (tCons (tC (.int 4)) tNil))) (tMake G.cCoin (SpD G.K (R_Coin_init G)) [] E (tCons (tC (.int 3)) (tCons (tC (.int 6)) tNil)))) (tNotV (tOp (rOwnEq G.K G.cCoin (SpD G.K (R_Coin_eq G)) E0) (tMake G.cCoin (SpD G.K (R_Coin_init G)) [] E (tCons (tC (.int 1)) (tCons (tC (.int 2)) tNil))) (tMake G.cCoin (SpD G.K (R_Coin_init G)) [] E (tCons (tC (.int 2)) (tCons (tC (.int 1)) tNil))))))))))
end RA
set_option Elab.async false
set_option linter.all false
set_option maxRecDepth 100000
set_option maxHeartbeats 4000000
namespace RA
open PySem PySem.Spec PyProof.Rows L2 Evl
/-! the walk over a reading -/
local macro_rules | `(tactic| walk_at "ra1") => `(tactic| first
  | exact ev_int
  | exact ev_bl
  | exact ev_non
  | exact ev_str
  | exact ev_ty
  | exact ev_ref
  | (refine ev_var ?_; rfl)
  | exact ea_nil
  | apply ea_cons
  | apply ev_opI0
  | apply ev_opB0
  | apply ev_opI
  | refine ev_neg ?_
  | apply ev_ixT
  | (show atI _ _ = some _; rfl)
  | refine ev_tup ?_ (by first | decide | simp)
  | apply ev_cb
  | apply ev_call
  | refine et_test ?_
  | refine et_B ?_
  | refine et_not ?_
  | exact et_yes)
local macro_rules | `(tactic| walk_at "ra") => `(tactic| repeat' (walk_at "ra1"))
variable {G : Gam} {ds : List D} {m : Mem} {P : Oc → Prop} {E : XK}
/-- Coin(a, b) of right shares -/
theorem ev_coin {tl : TA} {ts : TSt} {m : Mem} {a b : Int} {PD : D → Mem → Prop} (h : EvL G.K tl ts m [.int a, .int b]) (ha : Share a) (hb : Share b) (p : PD (coinD G a b) m) : EvP G.K (tMake G.cCoin (SpD G.K (R_Coin_init G)) [] E tl) ts m PD :=
  ev_make (h.p fun x hx => ⟨x, m, _, _, rfl, rfl, rfl, rfl, .inl ⟨a, b, rfl, rfl, ha, hb, rfl, x, _, m, rfl, rfl, p⟩⟩)
theorem ev_coinD {tl : TA} {ts : TSt} {m : Mem} {a b : Int} (h : EvL G.K tl ts m [.int a, .int b]) (ha : Share a) (hb : Share b) : EvD G.K (tMake G.cCoin (SpD G.K (R_Coin_init G)) [] E tl) ts m (coinD G a b) := ev_coin h ha hb ⟨rfl, rfl⟩
theorem within_share {d : D} : withinD d 1 9 = true → ∃ i, d = .int i ∧ Share i := fun h => by
  cases d <;> simp only [withinD, Bool.false_eq_true, Bool.and_eq_true, decide_eq_true_eq] at h
  exact ⟨_, rfl, h⟩
theorem p__law_refused_k01 (hx : PySem.W.exmOne G.K (.ref G.cInvalidCoin) (.ref G.cInvalidCoin) = some true) (h : R__law_refused_k01 G ds m P) : ExS G.K E (t__law_refused_k01 G E) (startT n__law_refused_k01 ds) m (Fin P) := by
  obtain ⟨d1, d2, rfl, f1, f2, p⟩ := h
  show ExS G.K E (t__law_refused_k01 G E) [some d1, some d2, none] m (Fin P)
  refine s_seq (s_asg (d := .bl false) (by walk_at "ra") ?_)
  show ExS G.K E _ [some d1, some d2, some (.bl false)] m (Fin P)
  refine s_seq (s_tryE (fun _ _ _ _ h => h) fun E' => s_dropX (ev_makeI ?_))
  refine EvL.p (ds := [d1, d2]) (by walk_at "ra") fun x hx' => ?_
  by_cases w : (withinD d1 1 9 && withinD d2 1 9) = true
  · have w' := w
    rw [Bool.and_eq_true] at w'
    obtain ⟨u, rfl, su⟩ := within_share w'.1
    obtain ⟨v, rfl, sv⟩ := within_share w'.2
    refine ⟨x, m, _, _, rfl, rfl, rfl, rfl, .inl ⟨u, v, rfl, rfl, su, sv, rfl, x, _, m, rfl, rfl, ?_⟩⟩
    refine s_ret (d := .bl false) (by walk_at "ra") ?_
    rw [w] at p
    exact p
  · have w : (withinD d1 1 9 && withinD d2 1 9) = false := by simpa using w
    refine ⟨x, m, _, _, rfl, rfl, f1, f2, .inr ⟨w, _, m, rfl, true, hx, fun _ => ⟨fun _ a dd => ?_, fun z => absurd rfl z⟩, fun z => nomatch z⟩⟩
    refine s_asg (d := .bl true) (by walk_at "ra") ?_
    refine s_ret (d := .bl true) (by walk_at "ra") ?_
    rw [w] at p
    exact p

theorem drawn_share {a b : Int} (h : (a, b) ∈ drawnL) : Share a ∧ Share b := by
  simp only [drawnL, List.mem_cons, List.not_mem_nil, or_false, Prod.mk.injEq] at h
  unfold Share
  omega
theorem pOf_eq {a b c d : Int} (ha : Share a) (hb : Share b) (hc : Share c) (hd : Share d) : decide (pOf a b = pOf c d) = decide (a * d = b * c) := by
  unfold Share at *
  unfold pOf
  rw [decide_eq_decide, Rat.divInt_eq_divInt_iff (by omega) (by omega)]
  constructor
  · intro h; rw [Int.mul_add, Int.mul_add, Int.mul_comm a c, Int.mul_comm c b] at h; omega
  · intro h; rw [Int.mul_add, Int.mul_add, Int.mul_comm a c, Int.mul_comm c b]; omega
/-- what the law leans on -/
structure K01Ok (G : Gam) : Prop where
  coin : CoinOk G
  x : PySem.W.exmOne G.K (.ref G.cInvalidCoin) (.ref G.cInvalidCoin) = some true
  kt : PySem.W.kitOne G.K (.type "tuple") (.ref G.cCoin) = some false
  nt : PySem.W.notFirst G.K G.cCoin (.type "tuple") = true
theorem ev_eqCoin {ta tb : TE} {ts : TSt} {m : Mem} {a b c d : Int} (h : EvD G.K ta ts m (coinD G a b)) (h2 : EvD G.K tb ts m (coinD G c d)) : EvD G.K (tOp (rOwnEq G.K G.cCoin (SpD G.K (R_Coin_eq G)) E) ta tb) ts m (.bl (decide (pOf a b = pOf c d))) :=
  ev_eqOwn h h2 (.inr ⟨_, rfl⟩) ⟨a, b, _, rfl, .inl ⟨c, d, rfl, rfl, rfl⟩⟩
def oddD : List D := [.int 0, .int 10, .int (-1), .non, .bl true, .str "1", .tup [.int 1], .int 1, .int 9]
theorem p_law_k01 (T : K01Ok G) (h : R_law G ds m P) : ExS G.K E (t_law_k01 G E) (startT n_law_k01 ds) m (Fin P) := by
  obtain ⟨ns, rfl, rfl, hn, p⟩ := h
  show ExS G.K E (t_law_k01 G E) [some (.lst (ns.map .int)), none, none, none, none, none, none, none, none] [] (Fin P)
  refine s_seq (s_asgP (ev_lstM (EvL.p (ds := [.lst (ns.map .int), .int 0, .int 221, .int 0]) (by walk_at "ra") ⟨by simp, fun l _ => ?_⟩)))
  show ExS G.K E _ [some (.lst (ns.map .int)), some (.ref l), none, none, none, none, none, none, none] [(l, rowD ns 0 221 0)] (Fin P)
  refine s_seq (s_asg (d := .lst oddD) (ev_lst (by unfold oddD; walk_at "ra") (by decide)) ?_)
  show ExS G.K E _ [some (.lst (ns.map .int)), some (.ref l), some (.lst oddD), none, none, none, none, none, none] [(l, rowD ns 0 221 0)] (Fin P)
  refine s_seq (s_for (wk_rng1 (n := 4) (by walk_at "ra") (by decide) (by decide))
    (fun _ ts m => ∃ r a b c d e f, RowOk r ∧ m = [(l, r)] ∧ ts = [some (.lst (ns.map .int)), some (.ref l), some (.lst oddD), a, b, c, d, e, f])
    ⟨_, none, none, none, none, none, none, ⟨ns, 0, 221, 0, rfl, by decide, by omega, by decide⟩, rfl, rfl⟩ (fun _ _ _ _ => trivial) ?_ ?_)
  · rintro i dt ts1 m1 hi ⟨r, o3, o4, o5, o6, o7, o8, hr, rfl, rfl⟩
    refine ⟨_, _, gt_nm, ?_⟩
    show ExS G.K E _ [some (.lst (ns.map .int)), some (.ref l), some (.lst oddD), some dt, o4, o5, o6, o7, o8] [(l, r)] _
    refine s_seq (s_parP (ea_consP (ev_callP (EvL.p (ds := [.ref l]) (by walk_at "ra") ⟨l, rfl, 0, r, rfl, hr, fun a b r1 hab hr1 => ?_⟩))))
    refine ea_consP (ev_callP (EvL.p (ds := [.ref l]) (by walk_at "ra") ⟨l, rfl, 0, r1, rfl, hr1, fun c d r2 hcd hr2 => ?_⟩))
    refine ea_nilP ⟨_, _, rfl, ?_⟩
    obtain ⟨sa, sb⟩ := drawn_share hab
    obtain ⟨sc, sd⟩ := drawn_share hcd
    show ExS G.K E _ [some (.lst (ns.map .int)), some (.ref l), some (.lst oddD), some dt, some (.tup [.int a, .int b]), some (.tup [.int c, .int d]), o6, o7, o8] [(l, r2)] _
    refine s_seq (s_par (d1 := coinD G a b) (d2 := coinD G c d) (ea_cons (ev_coinD (by walk_at "ra") sa sb) (ea_cons (ev_coinD (by walk_at "ra") sc sd) ea_nil)) ?_)
    show ExS G.K E _ [some (.lst (ns.map .int)), some (.ref l), some (.lst oddD), some dt, some (.tup [.int a, .int b]), some (.tup [.int c, .int d]), some (coinD G a b), some (coinD G c d), o8] [(l, r2)] _
    refine s_seq (s_if0 (et_or0 (EvT.is (et_test (ev_neD (p1 := .list [.int a, .int b]) (p2 := .list [.int a, .int b]) (d1 := .lst [.int a, .int b]) (d2 := .lst [.int a, .int b])
      (ev_lst (ea_cons (ev_prop (ev_var rfl) ⟨a, b, rfl, rfl, rfl⟩) (ea_cons (ev_prop (ev_var rfl) ⟨a, b, rfl, rfl, rfl⟩) ea_nil)) (by simp)) (ev_cb (by walk_at "ra") cb_listT) rfl rfl rfl rfl)) (by simp [PyData.eqv, PyData.eqvAll]))
      (et_or0 (et_test (ev_eqOwn (ev_var rfl) (ev_var rfl) (.inl ⟨"tuple", rfl, T.nt⟩) ⟨a, b, _, rfl, .inr ⟨"tuple", rfl, T.kt, rfl, rfl⟩⟩))
        (EvT.is (et_not (et_test (ev_eqCoin (ev_var rfl) (ev_coinD (a := a) (b := b) (by walk_at "ra") sa sb)))) (by simp)))) (s_next ?_))
    have sm : ∀ {i : Int}, Share i → i.natAbs < 2 ^ 10 := fun h => by unfold Share at h; omega
    refine s_seq (s_if0 (EvT.is (et_test (ev_ne (x := true) (ev_eqCoin (ev_var rfl) (ev_var rfl)) (ev_eq (x := decide (a * d = b * c)) (d1 := .int (a * d)) (d2 := .int (b * c)) ?_ ?_ rfl) ?_)) rfl) (s_next ?_))
    · walk_at "ra"
      exact cmulW (sm sa) (sm sd) (by decide)
    · walk_at "ra"
      exact cmulW (sm sb) (sm sc) (by decide)
    · rw [pOf_eq sa sb sc sd]; simp [eqF]
    refine s_seq (s_asgP (ev_callP (EvL.p (ds := [.ref l, .int 9]) (ea_cons (by walk_at "ra") (ea_cons (ev_cb (by walk_at "ra") (cb_lenL (ds := oddD))) ea_nil)) ⟨l, 9, rfl, by decide, by decide, 0, r2, rfl, hr2, fun x r3 h0 h9 hr3 => ?_⟩)))
    show ExS G.K E _ [some (.lst (ns.map .int)), some (.ref l), some (.lst oddD), some dt, some (.tup [.int a, .int b]), some (.tup [.int c, .int d]), some (coinD G a b), some (coinD G c d), some (.int x)] [(l, r3)] _
    have key : ∃ e, atI oddD x = some e ∧ Flat e ∧ withinD e 1 9 = decide (¬ x < 7) := by
      rcases (by omega : x = 0 ∨ x = 1 ∨ x = 2 ∨ x = 3 ∨ x = 4 ∨ x = 5 ∨ x = 6 ∨ x = 7 ∨ x = 8) with rfl | rfl | rfl | rfl | rfl | rfl | rfl | rfl | rfl <;> exact ⟨_, rfl, rfl, rfl⟩
    obtain ⟨e, he, fe, we⟩ := key
    have wa : withinD (.int a) 1 9 = true := by unfold Share at sa; simp [withinD]; omega
    have wb : withinD (.int b) 1 9 = true := by unfold Share at sb; simp [withinD]; omega
    have ref1 : ∀ {tl : TA} {d1 d2 : D} {PD : Bool}, EvL G.K tl [some (.lst (ns.map .int)), some (.ref l), some (.lst oddD), some dt, some (.tup [.int a, .int b]), some (.tup [.int c, .int d]), some (coinD G a b), some (coinD G c d), some (.int x)] [(l, r3)] [d1, d2] → Flat d1 → Flat d2 →
        (withinD d1 1 9 && withinD d2 1 9) = decide (¬ x < 7) → EvT G.K (tTest (tOp rNe (tCall (SpD G.K (R__law_refused_k01 G)) [] E tl) (tOp (rI0 fun i j => .bl (decide (i < j))) (tVar 8) (tC (.int 7))))) [some (.lst (ns.map .int)), some (.ref l), some (.lst oddD), some dt, some (.tup [.int a, .int b]), some (.tup [.int c, .int d]), some (coinD G a b), some (coinD G c d), some (.int x)] [(l, r3)] false := by
      intro tl d1 d2 PD hl f1 f2 hw
      refine EvT.is (et_test (ev_ne (x := true) (d1 := .bl (!(withinD d1 1 9 && withinD d2 1 9))) (d2 := .bl (decide (x < 7))) (ev_call hl ⟨d1, d2, rfl, f1, f2, rfl, rfl⟩) (by walk_at "ra") ?_)) rfl
      have e : (!decide (¬ x < 7)) = decide (x < 7) := by by_cases z : x < 7 <;> simp [z]
      rw [hw, e]; simp [eqF]
    refine s_if0 (et_or0 (ref1 (PD := true) (d1 := e) (d2 := .int b) (ea_cons (ev_ixL (ev_var rfl) (ev_var rfl) he) (by walk_at "ra")) fe rfl (by rw [we, wb]; simp)) (ref1 (PD := true) (d1 := .int a) (d2 := e) (ea_cons (by walk_at "ra") (ea_cons (ev_ixL (ev_var rfl) (ev_var rfl) he) ea_nil)) rfl fe (by rw [we, wa]; simp))) (s_next ?_)
    exact ⟨r3, _, _, _, _, _, _, hr3, rfl, rfl⟩
  · rintro ts1 m1 ⟨r, o3, o4, o5, o6, o7, o8, hr, rfl, rfl⟩
    refine s_ret (ev_and1 (EvD.is (ev_eqCoin (ev_coinD (a := 2) (b := 4) (by walk_at "ra") (by unfold Share; decide) (by unfold Share; decide)) (ev_coinD (a := 3) (b := 6) (by walk_at "ra") (by unfold Share; decide) (by unfold Share; decide))) (congrArg D.bl (by decide +kernel)))
      (EvD.is (ev_not (ev_eqCoin (ev_coinD (a := 1) (b := 2) (by walk_at "ra") (by unfold Share; decide) (by unfold Share; decide)) (ev_coinD (a := 2) (b := 1) (by walk_at "ra") (by unfold Share; decide) (by unfold Share; decide)))) (congrArg D.bl (show _ = true by decide +kernel)))) ?_
    exact p _
end RA
set_option Elab.async false
set_option linter.all false
set_option maxRecDepth 100000
set_option maxHeartbeats 4000000
/-! what is told of errors; calls that go well -/
namespace RA
open PySem PySem.Spec PyProof.Rows L2 Evl
/-! the walk over a reading -/
local macro_rules | `(tactic| walk_at "ra1") => `(tactic| first
  | exact ev_int
  | exact ev_bl
  | exact ev_non
  | exact ev_str
  | exact ev_ty
  | exact ev_ref
  | (refine ev_var ?_; rfl)
  | exact ea_nil
  | apply ea_cons
  | apply ev_opI0
  | apply ev_opB0
  | apply ev_opI
  | refine ev_neg ?_
  | apply ev_ixT
  | (show atI _ _ = some _; rfl)
  | refine ev_tup ?_ (by first | decide | simp)
  | apply ev_cb
  | apply ev_call
  | refine et_test ?_
  | refine et_B ?_
  | refine et_not ?_
  | exact et_yes)
local macro_rules | `(tactic| walk_at "ra") => `(tactic| repeat' (walk_at "ra1"))
variable {G : Gam} {ds : List D} {ts : TSt} {m : Mem} {P : Oc → Prop} {E : XK} {tl : TA} {te : TE} {n : Nat} {r : List Clause}
theorem within_run {j : Int} (h : Run j) : withinD (.int j) 1 40 = true := by unfold Run at h; simp only [withinD, Bool.and_eq_true, decide_eq_true_eq]; omega
theorem within_st {s lo hi : Int} (h : lo ≤ s) (h2 : s ≤ hi) : withinD (.int s) lo hi = true := by simp only [withinD, Bool.and_eq_true, decide_eq_true_eq]; omega
theorem runOc_ok {d : D} {most : Int} {o : Oc} (h : withinD d 1 most = true) : runOc G d most m o = o := if_pos h
theorem runOc_no {d : D} {most : Int} {o : Oc} (h : withinD d 1 most = false) : runOc G d most m o = .ra G.cBadRun [("value", d)] m := by unfold runOc; rw [h]; rfl
theorem stateOc_ok {d : D} {j k : Int} {o : Oc} (h : withinD d (1 - k) (j - 1) = true) : stateOc G j k d m o = o := if_pos h
theorem stateOc_no {d : D} {j k : Int} {o : Oc} (h : withinD d (1 - k) (j - 1) = false) : stateOc G j k d m o = .ra G.cBadState [] m := by unfold stateOc; rw [h]; rfl
theorem countOc_ok {d : D} {lo hi : Int} {o : Oc} (h : withinD d lo hi = true) : countOc G d lo hi m o = o := if_pos h
theorem countOc_no {d : D} {lo hi : Int} {o : Oc} (h : withinD d lo hi = false) : countOc G d lo hi m o = .ra G.cBadCount [("value", d)] m := by unfold countOc; rw [h]; rfl
/-- except BadRun as e: told = ['run', e.value] -/
theorem catch_val {C : Addr} {w : Str} {iE iT : Nat} {d : D} (hx : PySem.W.exmOne G.K (.ref C) (.ref C) = some true) (h1 : ∀ a, (ts0 n a (some iE))[iE]? = some (some (.ref a)))
    (hts : ∀ a d, ((ts0 n a (some iE)).set iT (some d)).set iE none = (List.replicate n none).set iT (some d)) (p : P (.nx ((List.replicate n none).set iT (some (.lst [.str w, d]))) m)) :
    CatchD G.K E n P C [("value", d)] m ((.ref C, some iE, fun a cls dd => tAsg (tLst (tCons (tC (.str w)) (tCons (tXf a cls dd C "value" (tVar iE)) tNil))) (gName iT)) :: r) :=
  ⟨true, hx, fun _ => ⟨(fun z => nomatch z), fun _ a x hxm => s_asg (d := .lst [.str w, d]) (ev_lst (ea_cons ev_str (ea_cons (ev_xf (k := 0) (ev_var (h1 a)) rfl lk_hit) ea_nil)) (by simp)) (by
    refine ⟨m, rfl, ?_⟩
    show P (.nx (((ts0 n a (some iE)).set iT (some (.lst [.str w, d]))).set iE none) m)
    rw [hts]; exact p)⟩, fun z => nomatch z⟩
/-- except C: told = a constant -/
theorem catch_con {C : Addr} {iT : Nat} {v : V} {d : D} (hx : PySem.W.exmOne G.K (.ref C) (.ref C) = some true) (hv : ∀ H, Den G.K H v d) (p : P (.nx ((List.replicate n none).set iT (some d)) m)) :
    CatchD G.K E n P C [] m ((.ref C, none, fun a cls dd => tAsg (tC v) (gName iT)) :: r) :=
  ⟨true, hx, fun _ => ⟨fun _ a dd => s_asg (d := d) (ev_val hv) p, fun z => absurd rfl z⟩, fun z => nomatch z⟩
theorem catch_skip {C C' : Addr} {fs : List (Str × D)} {nm : Option Nat} {su : Suite} (hx : PySem.W.exmOne G.K (.ref C) (.ref C') = some false) (h : CatchD G.K E n P C fs m r) : CatchD G.K E n P C fs m ((.ref C', nm, su) :: r) :=
  ⟨false, hx, (fun z => nomatch z), fun _ => h⟩
theorem runTold_ok {j o : D} (h : withinD j 1 40 = true) : runTold j o = o := if_pos h
theorem runTold_no {j o : D} (h : withinD j 1 40 = false) : runTold j o = .lst [.str "run", j] := by unfold runTold; rw [h]; rfl
theorem stateTold_ok {j k : Int} {s o : D} (h : withinD s (1 - k) (j - 1) = true) : stateTold j k s o = o := if_pos h
theorem stateTold_no {j k : Int} {s o : D} (h : withinD s (1 - k) (j - 1) = false) : stateTold j k s o = .str "state" := by unfold stateTold; rw [h]; rfl
/-! the law's row -/
theorem ev_taken {l : Addr} {k : Nat} {r : D} {many : Int} {PD : D → Mem → Prop} (h : EvL G.K tl ts m [.ref l, .int many]) (h0 : 0 < many) (h1 : many ≤ 1000) (hk : m[k]? = some (l, r)) (hr : RowOk r)
    (p : ∀ x r', 0 ≤ x → x < many → RowOk r' → PD (.int x) (m.set k (l, r'))) : EvP G.K (tCall (SpD G.K (R__law_taken G)) [] E tl) ts m PD :=
  ev_callP (h.p ⟨l, many, rfl, h0, h1, k, r, hk, hr, p⟩)
theorem row0 {ns : List Int} (hn : ns.length ≤ 63) {c : Int} (hc : c.natAbs < 1000) : RowOk (rowD ns 0 c 0) := ⟨ns, 0, c, 0, rfl, by decide, by omega, by omega⟩
/-! calls that go well -/
theorem e_chance {u d j k s : Int} (h : EvL G.K tl ts m [coinD G u d, .int j, .int k, .int s]) (hu : Share u) (hd : Share d) (hj : Run j) (hk : Run k) (h1 : 1 - k ≤ s) (h2 : s ≤ j - 1) :
    EvD G.K (tCall (SpD G.K (R_chance G)) [] E tl) ts m (frD (chanceR (pOf u d) (pOf d u) j k s)) := by
  refine ev_call h ⟨u, d, .int j, .int k, .int s, rfl, hu, hd, rfl, rfl, rfl, ?_⟩
  rw [runOc_ok (within_run hj), runOc_ok (within_run hk)]
  show Ends2 _ _ (stateOc G j k (.int s) m _)
  rw [stateOc_ok (within_st h1 h2)]
  exact ⟨rfl, rfl⟩
theorem e_mean {u d j k s : Int} (h : EvL G.K tl ts m [coinD G u d, .int j, .int k, .int s]) (hu : Share u) (hd : Share d) (hj : Run j) (hk : Run k) (h1 : 1 - k ≤ s) (h2 : s ≤ j - 1) :
    EvD G.K (tCall (SpD G.K (R_mean G)) [] E tl) ts m (frD (meanR (pOf u d) (pOf d u) j k s)) := by
  refine ev_call h ⟨u, d, .int j, .int k, .int s, rfl, hu, hd, rfl, rfl, rfl, ?_⟩
  rw [runOc_ok (within_run hj), runOc_ok (within_run hk)]
  show Ends2 _ _ (stateOc G j k (.int s) m _)
  rw [stateOc_ok (within_st h1 h2)]
  exact ⟨rfl, rfl⟩
theorem e_meanH {u d j : Int} (h : EvL G.K tl ts m [coinD G u d, .int j]) (hu : Share u) (hd : Share d) (hj : Run j) : EvD G.K (tCall (SpD G.K (R_mean_heads G)) [] E tl) ts m (frD (untilR (pOf u d) j)) := by
  refine ev_call h ⟨u, d, .int j, rfl, hu, hd, rfl, ?_⟩
  rw [runOc_ok (within_run hj)]
  exact ⟨rfl, rfl⟩
theorem e_meanB {u d j k : Int} (h : EvL G.K tl ts m [coinD G u d, .int j, .int k]) (hu : Share u) (hd : Share d) (hj : Run j) (hk : Run k) :
    EvD G.K (tCall (SpD G.K (R_mean_both G)) [] E tl) ts m (frD (untilR (pOf u d) j + untilR (pOf d u) k - meanR (pOf u d) (pOf d u) j k 0)) := by
  refine ev_call h ⟨u, d, .int j, .int k, rfl, hu, hd, rfl, rfl, ?_⟩
  rw [runOc_ok (within_run hj), runOc_ok (within_run hk)]
  exact ⟨rfl, rfl⟩
/-- fractions are compared -/
theorem e_neF {ta tb : TE} {p q : Rat} (ha : EvD G.K ta ts m (frD p)) (hb : EvD G.K tb ts m (frD q)) : EvD G.K (tOp (rNeD G.K) ta tb) ts m (.bl (!decide (p = q))) :=
  EvD.is (ev_neD (p1 := .tuple [.int p.num, .int p.den]) (p2 := .tuple [.int q.num, .int q.den]) ha hb rfl rfl rfl rfl) (by rw [eqv_fr])
theorem e_eqF {ta tb : TE} {p q : Rat} (ha : EvD G.K ta ts m (frD p)) (hb : EvD G.K tb ts m (frD q)) : EvD G.K (tOp (rEqD G.K) ta tb) ts m (.bl (decide (p = q))) :=
  EvD.is (ev_eqD (p1 := .tuple [.int p.num, .int p.den]) (p2 := .tuple [.int q.num, .int q.den]) ha hb rfl rfl rfl rfl) (by rw [eqv_fr])
theorem t_neF {ta tb : TE} {p q : Rat} (ha : EvD G.K ta ts m (frD p)) (hb : EvD G.K tb ts m (frD q)) : EvT G.K (tTest (tOp (rNeD G.K) ta tb)) ts m (!decide (p = q)) := et_test (e_neF ha hb)
theorem t_neF0 {ta tb : TE} {p q : Rat} (ha : EvD G.K ta ts m (frD p)) (hb : EvD G.K tb ts m (frD q)) (h : p = q) : EvT G.K (tTest (tOp (rNeD G.K) ta tb)) ts m false := (t_neF ha hb).is (by simp [h])
/-! values that are no numbers of a kind: they are told back -/
def Odd (d : D) : Prop := Flat d ∧ ∃ p, pyD d = some p ∧ PyData.eqv p p = true ∧ PyData.canLay0 p = true ∧ PyData.depth p = 0
theorem shaped_two {w : Str} {p : PyData} (hw : PyData.canLay0 (.str w) = true) (h : PyData.canLay0 p = true) (hd : PyData.depth p = 0) : SeqAt.shaped (.list [.str w, p]) = true := by
  unfold SeqAt.shaped
  rw [Bool.and_eq_true]
  constructor
  · show (PyData.canLay0 (.str w) && (PyData.canLay0 p && true)) = true
    rw [hw, h]; rfl
  · refine decide_eq_true ?_
    simp [PyData.depth, PyData.depthAll, hd]
theorem shaped_one {p : PyData} (h : PyData.canLay0 p = true) (hd : PyData.depth p = 0) : SeqAt.shaped (.list [p]) = true := by
  unfold SeqAt.shaped
  rw [Bool.and_eq_true]
  constructor
  · show (PyData.canLay0 p && true) = true
    rw [h]; rfl
  · refine decide_eq_true ?_
    simp [PyData.depth, PyData.depthAll, hd]
theorem e_told {ta tb : TE} {w : Str} {d : D} (h : Odd d) (ha : EvD G.K ta ts m (.lst [.str w, d])) (hb : EvD G.K tb ts m (.lst [.str w, d])) (hw : PyData.canLay0 (.str w) = true := by decide +kernel) : EvD G.K (tOp (rEqD G.K) ta tb) ts m (.bl true) := by
  obtain ⟨_, p, hp, he, h1, h2⟩ := h
  refine EvD.is (ev_eqD (p1 := .list [.str w, p]) (p2 := .list [.str w, p]) ha hb (by simp [pyD, pyDs, hp]) (by simp [pyD, pyDs, hp]) (shaped_two hw h1 h2) (shaped_two hw h1 h2)) ?_
  simp [PyData.eqv, PyData.eqvAll, he]
theorem t_toldN {ta tb : TE} {w : Str} {d : D} (h : Odd d) (ha : EvD G.K ta ts m (.lst [.str w, d])) (hb : EvD G.K tb ts m (.lst [.str w, d])) (hw : PyData.canLay0 (.str w) = true := by decide +kernel) : EvT G.K (tTest (tOp (rNeD G.K) ta tb)) ts m false := by
  obtain ⟨_, p, hp, he, h1, h2⟩ := h
  refine EvT.is (et_test (ev_neD (p1 := .list [.str w, p]) (p2 := .list [.str w, p]) ha hb (by simp [pyD, pyDs, hp]) (by simp [pyD, pyDs, hp]) (shaped_two hw h1 h2) (shaped_two hw h1 h2))) ?_
  simp [PyData.eqv, PyData.eqvAll, he]
theorem odd_int (i : Int) : Odd (.int i) := ⟨rfl, _, rfl, by simp [PyData.eqv], rfl, rfl⟩
theorem odd_non : Odd .non := ⟨rfl, _, rfl, by simp [PyData.eqv], rfl, rfl⟩
theorem odd_bl (b : Bool) : Odd (.bl b) := ⟨rfl, _, rfl, by simp [PyData.eqv], rfl, rfl⟩
theorem odd_str (x : Str) (h : PyData.canLay0 (.str x) = true := by decide +kernel) : Odd (.str x) := ⟨rfl, _, rfl, by simp [PyData.eqv], h, rfl⟩
end RA
set_option linter.all false
set_option maxHeartbeats 1000000
/-! Forms. -/
namespace RA
open PySem PySem.Spec PyProof.Rows L2 Evl
def gcdL (ns : List Int) : Int := ns.foldl (fun g n => (Int.gcd g n : Int)) 0
/-- what four integers tell -/
def recR (a : List Int) (x y : Rat) : Rat := (((a.getD 0 0 : Int) : Rat) + ((a.getD 1 0 : Int) : Rat) * x) + ((a.getD 2 0 : Int) : Rat) * y + ((a.getD 3 0 : Int) : Rat) * (x * y)
def cTop (q : Rat) : List Int := [0, q.den, 0, -q.num]
def cLow (w : Int) : List Int := [0, w, w, -w]
def mTop (a b : Int) : List Int := [(a + b) * (a + b), -(a * b) - a * a, -(a * b) - b * b, a * b]
theorem all81 {F : Int → Int → Bool} (h : ((List.range 9).all fun i => (List.range 9).all fun j => F ((i : Int) + 1) ((j : Int) + 1)) = true) {u d : Int} (hu : Share u) (hd : Share d) : F u d = true := by
  unfold Share at hu hd
  have a := List.all_eq_true.mp h (u - 1).toNat (by rw [List.mem_range]; omega)
  have b := List.all_eq_true.mp a (d - 1).toNat (by rw [List.mem_range]; omega)
  have e1 : (((u - 1).toNat : Nat) : Int) + 1 = u := by omega
  have e2 : (((d - 1).toNat : Nat) : Int) + 1 = d := by omega
  rw [e1, e2] at b
  exact b
theorem gcd_c {u d : Int} (hu : Share u) (hd : Share d) : gcdL (cTop (pOf d u) ++ cLow (pOf d u).den) = 1 :=
  of_decide_eq_true (all81 (F := fun u d => decide (gcdL (cTop (pOf d u) ++ cLow (pOf d u).den) = 1)) (by decide +kernel) hu hd)
theorem gcd_m {u d : Int} (hu : Share u) (hd : Share d) : gcdL (mTop (pOf u d).num (pOf d u).num ++ cLow ((pOf u d).num * (pOf d u).num)) = 1 :=
  of_decide_eq_true (all81 (F := fun u d => decide (gcdL (mTop (pOf u d).num (pOf d u).num ++ cLow ((pOf u d).num * (pOf d u).num)) = 1)) (by decide +kernel) hu hd)
theorem num_eq {u d : Int} (hu : Share u) (hd : Share d) : (((pOf u d).num : Int) : Rat) = pOf u d * (((pOf u d).num + (pOf d u).num : Int) : Rat) :=
  of_decide_eq_true (all81 (F := fun u d => decide ((((pOf u d).num : Int) : Rat) = pOf u d * (((pOf u d).num + (pOf d u).num : Int) : Rat))) (by decide +kernel) hu hd)
theorem num_eq2 {u d : Int} (hu : Share u) (hd : Share d) : (((pOf u d).num : Int) : Rat) = pOf u d * (((pOf u d).den : Int) : Rat) :=
  of_decide_eq_true (all81 (F := fun u d => decide ((((pOf u d).num : Int) : Rat) = pOf u d * (((pOf u d).den : Int) : Rat))) (by decide +kernel) hu hd)
theorem num_ge {u d : Int} (hu : Share u) (hd : Share d) : 1 ≤ (pOf u d).num ∧ (pOf u d).num ≤ 9 ∧ (pOf u d).den ≤ 18 := by
  have h := all81 (F := fun u d => decide (1 ≤ (pOf u d).num ∧ (pOf u d).num ≤ 9 ∧ (pOf u d).den ≤ 18)) (by decide +kernel) hu hd
  exact of_decide_eq_true h
theorem div_cancel_l {c a e : Rat} (hc : c ≠ 0) (he : e ≠ 0) : c * a / (c * e) = a / e := by
  refine (eq_div' he ?_)
  have d := div_mul' (a := c * a) (mul_ne' hc he)
  generalize c * a / (c * e) = t at *
  have z : (t * e - a) * c = 0 := by grind
  rcases Rat.mul_eq_zero.mp z with h | h
  · grind
  · exact absurd h hc
theorem cast_ne {w : Int} (h : w ≠ 0) : ((w : Int) : Rat) ≠ 0 := by
  intro z
  exact h (by exact_mod_cast z)
theorem low_eq (w : Int) (x y : Rat) : recR (cLow w) x y = (w : Rat) * endsR x y := by
  unfold recR cLow endsR
  show (((0 : Int) : Rat) + ((w : Int) : Rat) * x) + ((w : Int) : Rat) * y + (((-w : Int)) : Rat) * (x * y) = _
  rw [Rat.intCast_neg]
  have : ((0 : Int) : Rat) = 0 := rfl
  rw [this]
  grind
theorem top_c {u d : Int} (hu : Share u) (hd : Share d) (x y : Rat) : recR (cTop (pOf d u)) x y = (((pOf d u).den : Int) : Rat) * (x * (1 - pOf d u * y)) := by
  unfold recR cTop
  show (((0 : Int) : Rat) + (((pOf d u).den : Int) : Rat) * x) + ((0 : Int) : Rat) * y + (((-(pOf d u).num : Int)) : Rat) * (x * y) = _
  rw [Rat.intCast_neg]
  have : ((0 : Int) : Rat) = 0 := rfl
  rw [this, num_eq2 hd hu]
  grind
theorem form_c {u d : Int} (hu : Share u) (hd : Share d) {x y : Rat} (he : endsR x y ≠ 0) : recR (cTop (pOf d u)) x y / recR (cLow (pOf d u).den) x y = x * (1 - pOf d u * y) / endsR x y := by
  rw [top_c hu hd, low_eq]
  exact div_cancel_l (cast_ne (by have := (pOf d u).den_pos; omega)) he
theorem top_m {u d : Int} (hu : Share u) (hd : Share d) (x y : Rat) : recR (mTop (pOf u d).num (pOf d u).num) x y =
    ((((pOf u d).num + (pOf d u).num : Int) : Rat) * (((pOf u d).num + (pOf d u).num : Int) : Rat)) * ((1 - pOf u d * x) * (1 - pOf d u * y)) := by
  have e1 := num_eq hu hd
  have e2 := num_eq hd hu
  have e3 : (((pOf d u).num + (pOf u d).num : Int) : Rat) = (((pOf u d).num + (pOf d u).num : Int) : Rat) := by rw [Int.add_comm]
  rw [e3] at e2
  have s := pOf_sum hu hd
  unfold recR mTop
  show (((((pOf u d).num + (pOf d u).num) * ((pOf u d).num + (pOf d u).num) : Int) : Rat) + ((-((pOf u d).num * (pOf d u).num) - (pOf u d).num * (pOf u d).num : Int) : Rat) * x) + ((-((pOf u d).num * (pOf d u).num) - (pOf d u).num * (pOf d u).num : Int) : Rat) * y + (((pOf u d).num * (pOf d u).num : Int) : Rat) * (x * y) = _
  rw [Rat.intCast_mul, Rat.intCast_sub, Rat.intCast_sub, Rat.intCast_neg, Rat.intCast_mul, Rat.intCast_mul, Rat.intCast_mul]
  rw [e1, e2]
  generalize (((pOf u d).num + (pOf d u).num : Int) : Rat) = W
  generalize pOf u d = p at *
  generalize pOf d u = q at *
  clear e1 e2 e3
  have e : q = 1 - p := by grind
  subst e
  clear s
  grind
theorem low_m {u d : Int} (hu : Share u) (hd : Share d) (x y : Rat) : recR (cLow ((pOf u d).num * (pOf d u).num)) x y =
    ((((pOf u d).num + (pOf d u).num : Int) : Rat) * (((pOf u d).num + (pOf d u).num : Int) : Rat)) * (pOf u d * pOf d u * endsR x y) := by
  have e1 := num_eq hu hd
  have e2 := num_eq hd hu
  have e3 : (((pOf d u).num + (pOf u d).num : Int) : Rat) = (((pOf u d).num + (pOf d u).num : Int) : Rat) := by rw [Int.add_comm]
  rw [e3] at e2
  rw [low_eq, Rat.intCast_mul, e1, e2]
  generalize (((pOf u d).num + (pOf d u).num : Int) : Rat) = W
  grind
theorem wsum_ne {u d : Int} (hu : Share u) (hd : Share d) : ((((pOf u d).num + (pOf d u).num : Int) : Rat) * (((pOf u d).num + (pOf d u).num : Int) : Rat)) ≠ 0 := by
  have a := num_ge hu hd
  have b := num_ge hd hu
  exact mul_ne' (cast_ne (by omega)) (cast_ne (by omega))
theorem form_m {u d : Int} (hu : Share u) (hd : Share d) {x y : Rat} (he : pOf u d * pOf d u * endsR x y ≠ 0) : recR (mTop (pOf u d).num (pOf d u).num) x y / recR (cLow ((pOf u d).num * (pOf d u).num)) x y =
    (1 - pOf u d * x) * (1 - pOf d u * y) / (pOf u d * pOf d u * endsR x y) := by
  rw [top_m hu hd, low_m hu hd]
  exact div_cancel_l (wsum_ne hu hd) he
/-- near: the chance, the mean -/
theorem value_c {u d : Int} (hu : Share u) (hd : Share d) {j k : Int} (hj : Run j) (hk : Run k) : recR (cLow (pOf d u).den) (pOf u d ^ (j - 1).toNat) (pOf d u ^ (k - 1).toNat) ≠ 0 ∧
    recR (cTop (pOf d u)) (pOf u d ^ (j - 1).toNat) (pOf d u ^ (k - 1).toNat) / recR (cLow (pOf d u).den) (pOf u d ^ (j - 1).toNat) (pOf d u ^ (k - 1).toNat) = chanceR (pOf u d) (pOf d u) j k 0 := by
  have en := ends_ne hu hd hj hk
  rw [chance0 (pOf_sum hu hd) j k en, form_c hu hd en]
  exact ⟨by rw [low_eq]; exact mul_ne' (cast_ne (by have := (pOf d u).den_pos; omega)) en, rfl⟩
theorem value_m {u d : Int} (hu : Share u) (hd : Share d) {j k : Int} (hj : Run j) (hk : Run k) : recR (cLow ((pOf u d).num * (pOf d u).num)) (pOf u d ^ (j - 1).toNat) (pOf d u ^ (k - 1).toNat) ≠ 0 ∧
    recR (mTop (pOf u d).num (pOf d u).num) (pOf u d ^ (j - 1).toNat) (pOf d u ^ (k - 1).toNat) / recR (cLow ((pOf u d).num * (pOf d u).num)) (pOf u d ^ (j - 1).toNat) (pOf d u ^ (k - 1).toNat) = meanR (pOf u d) (pOf d u) j k 0 := by
  have en := ends_ne hu hd hj hk
  have p := pOf_pos hu hd
  have q := pOf_pos hd hu
  have n : pOf u d * pOf d u * endsR (pOf u d ^ (j - 1).toNat) (pOf d u ^ (k - 1).toNat) ≠ 0 := mul_ne' (mul_ne' (by grind) (by grind)) en
  rw [mean0 (pOf_sum hu hd) (by grind) (by grind) j k en, form_m hu hd n]
  exact ⟨by rw [low_m hu hd]; exact mul_ne' (wsum_ne hu hd) n, rfl⟩
/-- far: heads alone -/
theorem far_c {u d : Int} (hu : Share u) (hd : Share d) {j : Int} (hj : Run j) : recR (cLow (pOf d u).den) (pOf u d ^ (j - 1).toNat) 0 ≠ 0 ∧
    recR (cTop (pOf d u)) (pOf u d ^ (j - 1).toNat) 0 / recR (cLow (pOf d u).den) (pOf u d ^ (j - 1).toNat) 0 = 1 := by
  have xp := pow_pos' (pOf_pos hu hd) (j - 1).toNat
  generalize pOf u d ^ (j - 1).toNat = x at *
  have e : endsR x 0 = x := by unfold endsR; grind
  have en : endsR x 0 ≠ 0 := by rw [e]; grind
  rw [form_c hu hd en, e]
  refine ⟨by rw [low_eq]; exact mul_ne' (cast_ne (by have := (pOf d u).den_pos; omega)) en, ?_⟩
  exact (eq_div' (by grind) (by grind)).symm
theorem far_m {u d : Int} (hu : Share u) (hd : Share d) {j : Int} (hj : Run j) : recR (cLow ((pOf u d).num * (pOf d u).num)) (pOf u d ^ (j - 1).toNat) 0 ≠ 0 ∧
    recR (mTop (pOf u d).num (pOf d u).num) (pOf u d ^ (j - 1).toNat) 0 / recR (cLow ((pOf u d).num * (pOf d u).num)) (pOf u d ^ (j - 1).toNat) 0 = untilR (pOf u d) j := by
  have xp := pow_pos' (pOf_pos hu hd) (j - 1).toNat
  have p := pOf_pos hu hd
  have q := pOf_pos hd hu
  have s := pOf_sum hu hd
  rw [until_run hj.1]
  generalize pOf u d ^ (j - 1).toNat = x at *
  have e : endsR x 0 = x := by unfold endsR; grind
  have n : pOf u d * pOf d u * endsR x 0 ≠ 0 := by rw [e]; exact mul_ne' (mul_ne' (by grind) (by grind)) (by grind)
  rw [form_m hu hd n, e]
  refine ⟨by rw [low_m hu hd]; exact mul_ne' (wsum_ne hu hd) n, ?_⟩
  have e1 : 1 - pOf u d = pOf d u := by grind
  rw [e1]
  have e2 : (1 - pOf u d * x) * (1 - pOf d u * 0) = 1 - pOf u d * x := by grind
  have e3 : pOf u d * pOf d u * x = pOf d u * (pOf u d * x) := by grind
  rw [e2, e3]
end RA
set_option Elab.async false
set_option linter.all false
set_option maxRecDepth 100000
set_option maxHeartbeats 4000000
/-! What the defs of forms do, by data. -/
namespace RA
open PySem PySem.Spec PyProof.Rows L2 Evl
def intsT (ns : List Int) : D := .tup (ns.map .int)
def small1 (a : List Int) : Prop := ∀ x ∈ a, x.natAbs < 2 ^ 20
def R_lowest (G : Gam) : Rl := fun ds m P => ∃ (a : List Int) (w : Int), ds = [intsT a, intsT (cLow w)] ∧ a.length = 4 ∧ 0 < w ∧ w < 1000 ∧ small1 a ∧ gcdL (a ++ cLow w) = 1 ∧ P (.rt (.tup [intsT a, intsT (cLow w)]) m)
def cForm (u d : Int) : D := .tup [intsT (cTop (pOf d u)), intsT (cLow (pOf d u).den)]
def mForm (u d : Int) : D := .tup [intsT (mTop (pOf u d).num (pOf d u).num), intsT (cLow ((pOf u d).num * (pOf d u).num))]
def R_chance_form (G : Gam) : Rl := fun ds m P => ∃ u d, ds = [coinD G u d] ∧ Share u ∧ Share d ∧ P (.rt (cForm u d) m)
def R_mean_form (G : Gam) : Rl := fun ds m P => ∃ u d, ds = [coinD G u d] ∧ Share u ∧ Share d ∧ P (.rt (mForm u d) m)
def R_reckoned (G : Gam) : Rl := fun ds m P => ∃ (a : List Int) (x y : Rat), ds = [intsT a, frD x, frD y] ∧ a.length = 4 ∧ small1 a ∧ Sz 201 x ∧ Sz 201 y ∧ P (.rt (frD (recR a x y)) m)
def R_value (G : Gam) : Rl := fun ds m P => ∃ (a b : List Int) (u d : Int) (j k : D), ds = [.tup [intsT a, intsT b], coinD G u d, j, k] ∧ a.length = 4 ∧ b.length = 4 ∧ small1 a ∧ small1 b ∧ Share u ∧ Share d ∧ Flat j ∧ Flat k ∧
  (withinD j 1 40 = true → withinD k 1 40 = true → recR b (pOf u d ^ (intD j - 1).toNat) (pOf d u ^ (intD k - 1).toNat) ≠ 0) ∧
  P (runOc G j 40 m (runOc G k 40 m (.rt (frD (recR a (pOf u d ^ (intD j - 1).toNat) (pOf d u ^ (intD k - 1).toNat) / recR b (pOf u d ^ (intD j - 1).toNat) (pOf d u ^ (intD k - 1).toNat))) m)))
def R_far (G : Gam) : Rl := fun ds m P => ∃ (a b : List Int) (u d : Int) (j : D), ds = [.tup [intsT a, intsT b], coinD G u d, j] ∧ a.length = 4 ∧ b.length = 4 ∧ small1 a ∧ small1 b ∧ Share u ∧ Share d ∧ Flat j ∧
  (withinD j 1 40 = true → recR b (pOf u d ^ (intD j - 1).toNat) 0 ≠ 0) ∧
  P (runOc G j 40 m (.rt (frD (recR a (pOf u d ^ (intD j - 1).toNat) 0 / recR b (pOf u d ^ (intD j - 1).toNat) 0)) m))
def R__law_total (G : Gam) : Rl := fun ds m P => ∃ (qs : List Rat) (n : Nat), ds = [.lst (qs.map frD)] ∧ (∀ q ∈ qs, Sz n q) ∧ (qs.length + 1) * (n + 1) + n ≤ 8000 ∧ P (.rt (frD (qs.foldl (· + ·) 0)) m)
def R__law_is_form (G : Gam) : Rl := fun ds m P => ∃ (a : List Int) (w : Int), ds = [.tup [intsT a, intsT (cLow w)]] ∧ a.length = 4 ∧ 0 < w ∧ w < 1000 ∧ gcdL (a ++ cLow w) = 1 ∧ P (.rt (.bl true) m)
def R__law_told_k07 (G : Gam) : Rl := fun ds m P => ∃ (a : List Int) (x y : Rat), ds = [intsT a, frD x, frD y] ∧ a.length = 4 ∧ small1 a ∧ Sz 201 x ∧ Sz 201 y ∧ P (.rt (frD (recR a x y)) m)
def R__law_refused_k07 (G : Gam) : Rl := fun ds m P => ∃ (a b : List Int) (u d : Int) (j : D) (k : Int) (e : D), ds = [.tup [intsT a, intsT b], coinD G u d, j, .int k] ∧ a.length = 4 ∧ b.length = 4 ∧ small1 a ∧ small1 b ∧ Share u ∧ Share d ∧ Flat j ∧
  ((withinD j 1 40 = false ∧ e = j) ∨ (withinD j 1 40 = true ∧ k ≠ 0 ∧ withinD (.int k) 1 40 = false ∧ e = .int k)) ∧ P (.rt (badRunD e) m)
end RA
set_option linter.all false
set_option maxHeartbeats 1000000
/-! From a state to those behind a toss. -/
namespace RA
open PySem PySem.Spec PyProof.Rows L2 Evl
theorem head_alg {p q x y e : Rat} (hs : p + q = 1) (hp : p ≠ 0) (hq : q ≠ 0) (he : e ≠ 0) (hx : e = x + y - x * y) :
    ((1 - x) / q + (1 - x) * ((1 - y) / p)) / e = (1 - x) / q + (1 - x) * (((1 - y) / p + (1 - y) * ((1 - x) / q)) / e) := by
  generalize (1 - x) / q = a at *
  generalize (1 - y) / p = b at *
  refine (eq_div' he ?_).symm
  have d := div_mul' (a := b + (1 - y) * a) he
  generalize (b + (1 - y) * a) / e = t at *
  have k : (a + (1 - x) * t) * e = a * e + (1 - x) * (t * e) := by clear d; grind
  rw [k, d, hx]
  clear k d hx he
  grind
def upM (p q T : Rat) (n : Nat) : Rat := (1 - p ^ n) / q + (1 - p ^ n) * T
theorem upM_zero (p q T : Rat) : upM p q T 0 = 0 := by
  unfold upM; rw [Rat.pow_zero]; grind
theorem upM_succ {p q T : Rat} (hs : p + q = 1) (hq : q ≠ 0) (n : Nat) : upM p q T (n + 1) = (p * upM p q T n + q * T) + 1 := by
  unfold upM
  rw [Rat.pow_succ]
  generalize p ^ n = x
  have hQ : q * q⁻¹ = 1 := Rat.mul_inv_cancel q hq
  simp only [Rat.div_def]
  generalize q⁻¹ = Q at *
  have e : p = 1 - q := by grind
  subst e
  have k : (1 - x * (1 - q)) * Q + (1 - x * (1 - q)) * T = (1 - q) * ((1 - x) * Q + (1 - x) * T) + q * T + q * Q := by clear hQ hs hq; grind
  rw [k, hQ]
theorem head_up {p q : Rat} (hs : p + q = 1) (hp : p ≠ 0) (hq : q ≠ 0) (j k : Int) (he : endsR (p ^ (j - 1).toNat) (q ^ (k - 1).toNat) ≠ 0) : headM p q j k = upM p q (tailM p q j k) (j - 1).toNat := by
  unfold headM upM tailM hereR
  exact head_alg hs hp hq he rfl
theorem tail_down {p q : Rat} (hs : p + q = 1) (hp : p ≠ 0) (hq : q ≠ 0) (j k : Int) (he : endsR (p ^ (j - 1).toNat) (q ^ (k - 1).toNat) ≠ 0) : tailM p q j k = upM q p (headM p q j k) (k - 1).toNat := by
  unfold headM upM tailM hereR
  rw [ends_comm] at he ⊢
  exact head_alg (by grind) hq hp he rfl
/-- the value behind a toss: none left at the end -/
def endU (j u : Int) (z : Rat) (f : Int → Rat) : Rat := if u = j then z else f u
def rawU (s : Int) : Int := if 0 < s then s + 1 else 1
def rawD (s : Int) : Int := if s < 0 then s - 1 else -1
theorem meanR_up {p q : Rat} {j k s : Int} (h : 0 < s) : meanR p q j k s = upM p q (tailM p q j k) (j - s).toNat := by
  unfold meanR upM; rw [if_neg (by omega), if_pos h]
theorem meanR_down {p q : Rat} {j k s : Int} (h : s < 0) : meanR p q j k s = upM q p (headM p q j k) (k + s).toNat := by
  unfold meanR upM; rw [if_neg (by omega), if_neg (by omega)]
theorem mean_next {p q : Rat} (hs : p + q = 1) (hp : p ≠ 0) (hq : q ≠ 0) {j k s : Int} (hj : 1 ≤ j) (hk : 1 ≤ k) (h1 : 1 - k ≤ s) (h2 : s ≤ j - 1) (he : endsR (p ^ (j - 1).toNat) (q ^ (k - 1).toNat) ≠ 0) :
    meanR p q j k s = (p * endU j (rawU s) 0 (meanR p q j k) + q * endU (-k) (rawD s) 0 (meanR p q j k)) + 1 := by
  have hu := head_up hs hp hq j k he
  have ht := tail_down hs hp hq j k he
  have up : ∀ u : Int, 0 < u → u ≤ j → endU j u 0 (meanR p q j k) = upM p q (tailM p q j k) (j - u).toNat := by
    intro u h0 h1
    unfold endU
    split
    · rename_i c
      have : (j - u).toNat = 0 := by omega
      rw [this, upM_zero]
    · exact meanR_up h0
  have dn : ∀ u : Int, u < 0 → -k ≤ u → endU (-k) u 0 (meanR p q j k) = upM q p (headM p q j k) (k + u).toNat := by
    intro u h0 h1
    unfold endU
    split
    · rename_i c
      have : (k + u).toNat = 0 := by omega
      rw [this, upM_zero]
    · exact meanR_down h0
  rcases Int.lt_trichotomy s 0 with c | c | c
  · have e1 : rawU s = 1 := by unfold rawU; rw [if_neg (by omega)]
    have e2 : rawD s = s - 1 := by unfold rawD; rw [if_pos c]
    rw [e1, e2, up 1 (by omega) hj, dn (s - 1) (by omega) (by omega), ← hu, meanR_down c]
    have e3 : (k + s).toNat = (k + (s - 1)).toNat + 1 := by omega
    rw [e3, upM_succ (by grind) hp]
    grind
  · subst c
    have e1 : rawU 0 = 1 := rfl
    have e2 : rawD 0 = -1 := rfl
    rw [e1, e2, up 1 (by omega) hj, dn (-1) (by omega) (by omega), ← hu]
    have e3 : (k + -1).toNat = (k - 1).toNat := rfl
    rw [e3, ← ht]
    unfold meanR
    rw [if_pos rfl]
    grind
  · have e1 : rawU s = s + 1 := by unfold rawU; rw [if_pos c]
    have e2 : rawD s = -1 := by unfold rawD; rw [if_neg (by omega)]
    rw [e1, e2, up (s + 1) (by omega) (by omega), dn (-1) (by omega) (by omega)]
    have e3 : (k + -1).toNat = (k - 1).toNat := rfl
    rw [e3, ← ht, meanR_up c]
    have e4 : (j - s).toNat = (j - (s + 1)).toNat + 1 := by omega
    rw [e4, upM_succ hs hq]
/-! chances -/
def upC (p T : Rat) (n : Nat) : Rat := p ^ n + (1 - p ^ n) * T
def dnC (q H : Rat) (n : Nat) : Rat := (1 - q ^ n) * H
theorem upC_zero (p T : Rat) : upC p T 0 = 1 := by unfold upC; rw [Rat.pow_zero]; grind
theorem dnC_zero (q H : Rat) : dnC q H 0 = 0 := by unfold dnC; rw [Rat.pow_zero]; grind
theorem upC_succ {p q T : Rat} (hs : p + q = 1) (n : Nat) : upC p T (n + 1) = p * upC p T n + q * T := by
  unfold upC; rw [Rat.pow_succ]
  generalize p ^ n = x
  have e : q = 1 - p := by grind
  subst e
  grind
theorem dnC_succ {p q H : Rat} (hs : p + q = 1) (n : Nat) : dnC q H (n + 1) = p * H + q * dnC q H n := by
  unfold dnC; rw [Rat.pow_succ]
  generalize q ^ n = x
  have e : p = 1 - q := by grind
  subst e
  grind
theorem head_upC {p q : Rat} (j k : Int) (he : endsR (p ^ (j - 1).toNat) (q ^ (k - 1).toNat) ≠ 0) : headR p q j k = upC p (tailR p q j k) (j - 1).toNat := by
  unfold headR tailR upC headR
  have ee : endsR (p ^ (j - 1).toNat) (q ^ (k - 1).toNat) = p ^ (j - 1).toNat + q ^ (k - 1).toNat - p ^ (j - 1).toNat * q ^ (k - 1).toNat := rfl
  generalize endsR (p ^ (j - 1).toNat) (q ^ (k - 1).toNat) = e at *
  generalize p ^ (j - 1).toNat = x at *
  generalize q ^ (k - 1).toNat = y at *
  refine (eq_div' he ?_).symm
  have d := div_mul' (a := x) he
  generalize x / e = t at *
  have k : (x + (1 - x) * ((1 - y) * t)) * e = x * e + (1 - x) * (1 - y) * (t * e) := by clear d; grind
  rw [k, d, ee]
  clear k d ee he
  grind
theorem tail_dnC (p q : Rat) (j k : Int) : tailR p q j k = dnC q (headR p q j k) (k - 1).toNat := rfl
theorem chanceR_up {p q : Rat} {j k s : Int} (h : 0 < s) : chanceR p q j k s = upC p (tailR p q j k) (j - s).toNat := by
  unfold chanceR upC; rw [if_neg (by omega), if_pos h]
theorem chanceR_down {p q : Rat} {j k s : Int} (h : s < 0) : chanceR p q j k s = dnC q (headR p q j k) (k + s).toNat := by
  unfold chanceR dnC; rw [if_neg (by omega), if_neg (by omega)]
theorem chance_next {p q : Rat} (hs : p + q = 1) {j k s : Int} (hj : 1 ≤ j) (hk : 1 ≤ k) (h1 : 1 - k ≤ s) (h2 : s ≤ j - 1) (he : endsR (p ^ (j - 1).toNat) (q ^ (k - 1).toNat) ≠ 0) :
    chanceR p q j k s = p * endU j (rawU s) 1 (chanceR p q j k) + q * endU (-k) (rawD s) 0 (chanceR p q j k) := by
  have hu := head_upC j k he
  have ht := tail_dnC p q j k
  have up : ∀ u : Int, 0 < u → u ≤ j → endU j u 1 (chanceR p q j k) = upC p (tailR p q j k) (j - u).toNat := by
    intro u h0 h1
    unfold endU
    split
    · rename_i c
      have : (j - u).toNat = 0 := by omega
      rw [this, upC_zero]
    · exact chanceR_up h0
  have dn : ∀ u : Int, u < 0 → -k ≤ u → endU (-k) u 0 (chanceR p q j k) = dnC q (headR p q j k) (k + u).toNat := by
    intro u h0 h1
    unfold endU
    split
    · rename_i c
      have : (k + u).toNat = 0 := by omega
      rw [this, dnC_zero]
    · exact chanceR_down h0
  rcases Int.lt_trichotomy s 0 with c | c | c
  · have e1 : rawU s = 1 := by unfold rawU; rw [if_neg (by omega)]
    have e2 : rawD s = s - 1 := by unfold rawD; rw [if_pos c]
    rw [e1, e2, up 1 (by omega) hj, dn (s - 1) (by omega) (by omega), ← hu, chanceR_down c]
    have e3 : (k + s).toNat = (k + (s - 1)).toNat + 1 := by omega
    rw [e3, dnC_succ hs]
  · subst c
    have e1 : rawU 0 = 1 := rfl
    have e2 : rawD 0 = -1 := rfl
    rw [e1, e2, up 1 (by omega) hj, dn (-1) (by omega) (by omega), ← hu]
    have e3 : (k + -1).toNat = (k - 1).toNat := rfl
    rw [e3, ← ht]
    unfold chanceR
    rw [if_pos rfl]
  · have e1 : rawU s = s + 1 := by unfold rawU; rw [if_pos c]
    have e2 : rawD s = -1 := by unfold rawD; rw [if_neg (by omega)]
    rw [e1, e2, up (s + 1) (by omega) (by omega), dn (-1) (by omega) (by omega)]
    have e3 : (k + -1).toNat = (k - 1).toNat := rfl
    rw [e3, ← ht, chanceR_up c]
    have e4 : (j - s).toNat = (j - (s + 1)).toNat + 1 := by omega
    rw [e4, upC_succ hs]
end RA
set_option linter.all false
set_option maxHeartbeats 1000000
/-! Rows of tosses: sums by rows and by states. -/
namespace RA
open PySem PySem.Spec PyProof.Rows L2 Evl
def nextU (j s : Int) : Option Int := if rawU s < j then some (rawU s) else none
def nextDn (k s : Int) : Option Int := if -k < rawD s then some (rawD s) else none
def atO (x : Int) (f : Int → Int) : Option Int → Int
  | some t => x * f t
  | none => 0
def stepF (u d j k : Int) (f : Int → Int) : Int → Int := fun s => atO u f (nextU j s) + atO d f (nextDn k s)
def sumF (u d j k : Int) : Nat → (Int → Int) → Int
  | 0, f => f 0
  | n + 1, f => sumF u d j k n (stepF u d j k f)
/-- by rows -/
def stepR (u d j k : Int) (st : Option (Int × Int)) (b : Int) : Option (Int × Int) := match st with
  | none => none
  | some (s, w) => if b = 0 then (nextU j s).map (fun t => (t, w * u)) else (nextDn k s).map (fun t => (t, w * d))
def rowSt (u d j k : Int) (r : List Int) : Option (Int × Int) := r.foldl (stepR u d j k) (some (0, 1))
def valO (f : Int → Int) : Option (Int × Int) → Int
  | some (s, w) => w * f s
  | none => 0
def wgt (u d j k : Int) (r : List Int) : Int := valO (fun _ => 1) (rowSt u d j k r)
def rowsL : Nat → List (List Int)
  | 0 => [[]]
  | n + 1 => (rowsL n).map (fun r => r ++ [0]) ++ (rowsL n).map (fun r => r ++ [1])
theorem rowSt_snoc {u d j k : Int} (r : List Int) (b : Int) : rowSt u d j k (r ++ [b]) = stepR u d j k (rowSt u d j k r) b := by unfold rowSt; rw [List.foldl_append]; rfl
theorem valO_step {u d j k : Int} (f : Int → Int) (st : Option (Int × Int)) : valO f (stepR u d j k st 0) + valO f (stepR u d j k st 1) = valO (stepF u d j k f) st := by
  cases st with
  | none => rfl
  | some p =>
    obtain ⟨s, w⟩ := p
    show valO f ((nextU j s).map (fun t => (t, w * u))) + valO f ((nextDn k s).map (fun t => (t, w * d))) = w * (atO u f (nextU j s) + atO d f (nextDn k s))
    cases nextU j s <;> cases nextDn k s <;> simp only [Option.map_none, Option.map_some, valO, atO] <;> grind
theorem sum_map_add {α : Type} (f g : α → Int) : ∀ l : List α, (l.map f).sum + (l.map g).sum = (l.map fun x => f x + g x).sum
  | [] => rfl
  | x :: l => by
    have := sum_map_add f g l
    simp only [List.map_cons, List.sum_cons]
    omega
theorem rows_sum (u d j k : Int) : ∀ (n : Nat) (f : Int → Int), ((rowsL n).map fun r => valO f (rowSt u d j k r)).sum = sumF u d j k n f
  | 0, f => by simp [rowsL, rowSt, valO, sumF]
  | n + 1, f => by
    unfold rowsL sumF
    rw [List.map_append, List.sum_append, List.map_map, List.map_map, sum_map_add, ← rows_sum u d j k n]
    congr 1
    apply List.map_congr_left
    intro r _
    show valO f (rowSt u d j k (r ++ [0])) + valO f (rowSt u d j k (r ++ [1])) = _
    rw [rowSt_snoc, rowSt_snoc, valO_step]
theorem rows_len : ∀ n : Nat, (rowsL n).length = 2 ^ n
  | 0 => rfl
  | n + 1 => by
    unfold rowsL
    rw [List.length_append, List.length_map, List.length_map, rows_len n, Nat.pow_succ]; omega
theorem rows_mem : ∀ (n : Nat) (r : List Int), r ∈ rowsL n → r.length = n ∧ ∀ b ∈ r, b = 0 ∨ b = 1
  | 0, r, h => by
    simp only [rowsL, List.mem_cons, List.not_mem_nil, or_false] at h
    subst h
    exact ⟨rfl, fun b hb => nomatch hb⟩
  | n + 1, r, h => by
    unfold rowsL at h
    rcases List.mem_append.mp h with h | h
    all_goals
      obtain ⟨q, hq, rfl⟩ := List.mem_map.mp h
      obtain ⟨h1, h2⟩ := rows_mem n q hq
      refine ⟨by rw [List.length_append, h1]; rfl, fun b hb => ?_⟩
      rcases List.mem_append.mp hb with hb | hb
      · exact h2 b hb
      · simp only [List.mem_cons, List.not_mem_nil, or_false] at hb
        subst hb; simp
/-- never over; at once -/
theorem stepF_far {u d j k : Int} (n : Nat) (f : Int → Int) (c : Int) (hf : ∀ s, s.natAbs ≤ n + 1 → f s = c) (hj : (n : Int) + 1 < j) (hk : (n : Int) + 1 < k) : ∀ s, s.natAbs ≤ n → stepF u d j k f s = (u + d) * c := fun s hs => by
  unfold stepF nextU nextDn
  have r1 : rawU s < j := by unfold rawU; split <;> omega
  have r2 : -k < rawD s := by unfold rawD; split <;> omega
  rw [if_pos r1, if_pos r2]
  show u * f (rawU s) + d * f (rawD s) = _
  rw [hf _ (by unfold rawU; split <;> omega), hf _ (by unfold rawD; split <;> omega)]
  grind
theorem sumF_far {u d j k : Int} : ∀ (n : Nat) (f : Int → Int) (c : Int), (∀ s, s.natAbs ≤ n → f s = c) → (n : Int) < j → (n : Int) < k → sumF u d j k n f = (u + d) ^ n * c
  | 0, f, c, hf, _, _ => by
    show f 0 = _
    rw [hf 0 (by decide)]; simp
  | n + 1, f, c, hf, hj, hk => by
    unfold sumF
    rw [sumF_far n _ ((u + d) * c) (stepF_far n f c hf (by omega) (by omega)) (by omega) (by omega), Int.pow_succ]
    grind
theorem stepF_one {u d : Int} (f : Int → Int) : stepF u d 1 1 f = fun _ => 0 := by
  funext s
  unfold stepF nextU nextDn
  have r1 : ¬ rawU s < 1 := by unfold rawU; split <;> omega
  have r2 : ¬ (-1 : Int) < rawD s := by unfold rawD; split <;> omega
  rw [if_neg r1, if_neg r2]; rfl
theorem sumF_zero {u d j k : Int} : ∀ n : Nat, sumF u d j k n (fun _ => 0) = 0
  | 0 => rfl
  | n + 1 => by
    unfold sumF
    have : stepF u d j k (fun _ => 0) = fun _ => 0 := by
      funext s; unfold stepF
      cases nextU j s <;> cases nextDn k s <;> simp [atO]
    rw [this, sumF_zero n]
theorem sumF_one {u d : Int} (n : Nat) (f : Int → Int) : sumF u d 1 1 (n + 1) f = 0 := by
  unfold sumF; rw [stepF_one, sumF_zero]
/-! tables of numbers -/
def kvI (ivs : List (Int × Int)) : List (Key × D) := ivs.map fun p => (.inl p.1, .int p.2)
def addI : List (Int × Int) → Int → Int → List (Int × Int)
  | [], s, x => [(s, x)]
  | (t, w) :: r, s, x => if t = s then (t, w + x) :: r else (t, w) :: addI r s x
def lookI : List (Int × Int) → Int → Int
  | [], _ => 0
  | (t, w) :: r, s => if t = s then w else lookI r s
def linI (f : Int → Int) (ivs : List (Int × Int)) : Int := (ivs.map fun p => p.2 * f p.1).sum
theorem lin_add (f : Int → Int) (s x : Int) : ∀ ivs, linI f (addI ivs s x) = linI f ivs + x * f s
  | [] => by simp [addI, linI]
  | (t, w) :: r => by
    unfold addI
    split
    · rename_i c; subst c
      simp only [linI, List.map_cons, List.sum_cons]
      rw [Int.add_mul]; omega
    · have := lin_add f s x r
      simp only [linI, List.map_cons, List.sum_cons] at this ⊢
      omega
theorem keys_add (s x : Int) : ∀ ivs t, t ∈ (addI ivs s x).map (·.1) → t = s ∨ t ∈ ivs.map (·.1)
  | [], t, h => by simp [addI] at h; exact .inl h
  | (a, w) :: r, t, h => by
    unfold addI at h
    split at h
    · rename_i c
      exact .inr (by simpa using h)
    · simp only [List.map_cons, List.mem_cons] at h ⊢
      rcases h with h | h
      · exact .inr (.inl h)
      · rcases keys_add s x r t h with h | h
        · exact .inl h
        · exact .inr (.inr h)
theorem nodup_add (s x : Int) : ∀ ivs, (ivs.map (·.1)).Nodup → ((addI ivs s x).map (·.1)).Nodup
  | [], _ => by simp [addI]
  | (a, w) :: r, h => by
    unfold addI
    split
    · simpa using h
    · rename_i c
      simp only [List.map_cons, List.nodup_cons] at h ⊢
      refine ⟨fun z => ?_, nodup_add s x r h.2⟩
      rcases keys_add s x r a z with z | z
      · exact c z
      · exact h.1 z
theorem len_add (s x : Int) : ∀ ivs, (addI ivs s x).length ≤ ivs.length + 1
  | [] => by simp [addI]
  | (a, w) :: r => by
    unfold addI
    have := len_add s x r
    split <;> simp only [List.length_cons] <;> omega
theorem bound_add {B C : Nat} (s x : Int) (hx : x.natAbs ≤ C) : ∀ ivs : List (Int × Int), (∀ p ∈ ivs, p.2.natAbs ≤ B) → ∀ p ∈ addI ivs s x, p.2.natAbs ≤ B + C
  | [], _, p, h => by simp [addI] at h; subst h; simp; omega
  | (a, w) :: r, hb, p, h => by
    have hw := hb (a, w) List.mem_cons_self
    have hw : w.natAbs ≤ B := hw
    unfold addI at h
    split at h
    · rcases List.mem_cons.mp h with rfl | h
      · show (w + x).natAbs ≤ B + C
        omega
      · have := hb p (List.mem_cons_of_mem _ h); omega
    · rcases List.mem_cons.mp h with rfl | h
      · show w.natAbs ≤ B + C
        omega
      · exact bound_add s x hx r (fun p hp => hb p (List.mem_cons_of_mem _ hp)) p h
theorem look_val (s : Int) : ∀ ivs, (valD (kvI ivs) (.inl s)).getD (.int 0) = .int (lookI ivs s)
  | [] => rfl
  | (t, w) :: r => by
    unfold lookI
    show (valD ((.inl t, .int w) :: kvI r) (.inl s)).getD (.int 0) = _
    by_cases c : t = s
    · rw [if_pos c, valD_pos (p := (Sum.inl t, D.int w)) (by rw [c])]; rfl
    · rw [if_neg c, valD_neg (p := (Sum.inl t, D.int w)) (by simpa using c)]; exact look_val s r
theorem look_bound {B : Nat} (s : Int) : ∀ ivs : List (Int × Int), (∀ p ∈ ivs, p.2.natAbs ≤ B) → (lookI ivs s).natAbs ≤ B
  | [], _ => by simp [lookI]
  | (t, w) :: r, h => by
    unfold lookI
    split
    · exact h (t, w) List.mem_cons_self
    · exact look_bound s r fun p hp => h p (List.mem_cons_of_mem _ hp)
theorem putKD_off {kvs : List (Key × D)} {k : Key} {d : D} {p : Key × D} (h : ¬ p.1 = k) : putKD (p :: kvs) k d = p :: putKD kvs k d := by
  unfold putKD
  rw [List.any_cons, decide_eq_false h, Bool.false_or]
  split
  · rw [List.map_cons, if_neg h]
  · rfl
theorem putKD_hit {kvs : List (Key × D)} {k : Key} {d : D} {p : Key × D} (h : p.1 = k) (hn : k ∉ kvs.map (·.1)) : putKD (p :: kvs) k d = (k, d) :: kvs := by
  unfold putKD
  rw [List.any_cons, decide_eq_true h, Bool.true_or, if_pos rfl, List.map_cons, if_pos h, h]
  congr 1
  rw [List.map_congr_left (g := id) (fun q hq => ?_), List.map_id]
  exact if_neg fun z => hn (by rw [← z]; exact List.mem_map_of_mem hq)
theorem put_add (s x : Int) : ∀ ivs : List (Int × Int), (ivs.map (·.1)).Nodup → putKD (kvI ivs) (.inl s) (.int (lookI ivs s + x)) = kvI (addI ivs s x)
  | [], _ => by
    show putKD [] (.inl s) (.int (0 + x)) = kvI [(s, x)]
    rw [Int.zero_add]; rfl
  | (t, w) :: r, h => by
    simp only [List.map_cons, List.nodup_cons] at h
    unfold addI lookI
    by_cases c : t = s
    · rw [if_pos c, if_pos c]
      subst c
      show putKD ((.inl t, .int w) :: kvI r) (.inl t) (.int (w + x)) = (.inl t, .int (w + x)) :: kvI r
      refine putKD_hit rfl fun z => h.1 ?_
      obtain ⟨q, hq, e⟩ := List.mem_map.mp z
      obtain ⟨q2, hq2, rfl⟩ := List.mem_map.mp hq
      have e : q2.1 = t := by simpa using e
      rw [← e]; exact List.mem_map_of_mem hq2
    · rw [if_neg c, if_neg c]
      show putKD ((.inl t, .int w) :: kvI r) (.inl s) (.int (lookI r s + x)) = (.inl t, .int w) :: kvI (addI r s x)
      rw [putKD_off (by simpa using c), put_add s x r h.2]
def addO (ivs : List (Int × Int)) (x : Int) : Option Int → List (Int × Int)
  | none => ivs
  | some t => addI ivs t x
theorem lin_addO (f : Int → Int) (x y : Int) (o : Option Int) (ivs : List (Int × Int)) : linI f (addO ivs (x * y) o) = linI f ivs + x * atO y f o := by
  cases o with
  | none => simp [addO, atO]
  | some t => show linI f (addI ivs t (x * y)) = _; rw [lin_add]; show _ = _ + x * (y * f t); rw [Int.mul_assoc]
/-- a whole turn over the table -/
def turnI (u d j k : Int) (ivs : List (Int × Int)) : List (Int × Int) := ivs.foldl (fun acc p => addO (addO acc (p.2 * u) (nextU j p.1)) (p.2 * d) (nextDn k p.1)) []
theorem lin_turn (u d j k : Int) (f : Int → Int) (ivs : List (Int × Int)) : linI f (turnI u d j k ivs) = linI (stepF u d j k f) ivs := by
  have key : ∀ (l acc : List (Int × Int)), linI f (l.foldl (fun acc p => addO (addO acc (p.2 * u) (nextU j p.1)) (p.2 * d) (nextDn k p.1)) acc) = linI f acc + linI (stepF u d j k f) l := by
    intro l
    induction l with
    | nil => intro acc; simp [linI]
    | cons p l ih =>
      intro acc
      rw [List.foldl_cons, ih, lin_addO, lin_addO]
      simp only [linI, List.map_cons, List.sum_cons]
      have e : p.2 * stepF u d j k f p.1 = p.2 * atO u f (nextU j p.1) + p.2 * atO d f (nextDn k p.1) := by unfold stepF; rw [Int.mul_add]
      rw [e]
      generalize p.2 * atO u f (nextU j p.1) = A
      generalize p.2 * atO d f (nextDn k p.1) = B
      omega
  have := key ivs []
  unfold turnI
  rw [this]
  simp [linI]
/-- what holds of a table behind n turns -/
structure TabOk (u d j k : Int) (n : Nat) (ivs : List (Int × Int)) : Prop where
  lin : ∀ f, linI f ivs = sumF u d j k n f
  nd : (ivs.map (·.1)).Nodup
  len : ivs.length ≤ 2 ^ n
  bnd : ∀ p ∈ ivs, p.2.natAbs ≤ 2 ^ (14 * n)
theorem tab0 (u d j k : Int) : TabOk u d j k 0 [(0, 1)] := ⟨fun f => by simp [linI, sumF], by simp, by simp, fun p hp => by simp at hp; subst hp; simp⟩
/-- within a turn -/
structure PartOk (B i : Nat) (ivs : List (Int × Int)) : Prop where
  nd : (ivs.map (·.1)).Nodup
  len : ivs.length ≤ i
  bnd : ∀ p ∈ ivs, p.2.natAbs ≤ i * (9 * B)
theorem part0 (B : Nat) : PartOk B 0 [] := ⟨by simp, by simp, fun p hp => nomatch hp⟩
theorem PartOk.mono {B i l : Nat} {ivs : List (Int × Int)} (h : PartOk B i ivs) (hl : i ≤ l) : PartOk B l ivs := ⟨h.nd, Nat.le_trans h.len hl, fun p hp => Nat.le_trans (h.bnd p hp) (Nat.mul_le_mul_right _ hl)⟩
theorem mul_bound {B : Nat} {x y : Int} (hx : x.natAbs ≤ B) (hy : Share y) : (x * y).natAbs ≤ 9 * B := by
  rw [Int.natAbs_mul, Nat.mul_comm]
  unfold Share at hy
  exact Nat.mul_le_mul (by omega) hx
theorem PartOk.add {B i : Nat} {ivs : List (Int × Int)} (h : PartOk B i ivs) {x y : Int} (hx : x.natAbs ≤ B) (hy : Share y) (o : Option Int) : PartOk B (i + 1) (addO ivs (x * y) o) := by
  cases o with
  | none => exact h.mono (by omega)
  | some t =>
    refine ⟨nodup_add _ _ _ h.nd, Nat.le_trans (len_add _ _ _) (by have := h.len; omega), fun p hp => ?_⟩
    have := bound_add t (x * y) (mul_bound hx hy) ivs h.bnd p hp
    rw [Nat.succ_mul]; exact this
theorem tab_turn {u d j k : Int} {n : Nat} {ivs : List (Int × Int)} (h : TabOk u d j k n ivs) (hn : n ≤ 9) {ivs' : List (Int × Int)} (e : ivs' = turnI u d j k ivs) (p : PartOk (2 ^ (14 * n)) (2 * ivs.length) ivs') : TabOk u d j k (n + 1) ivs' := by
  have l := h.len
  refine ⟨fun f => by rw [e, lin_turn, h.lin]; rfl, p.nd, Nat.le_trans p.len (by rw [Nat.pow_succ]; omega), fun q hq => ?_⟩
  have b := p.bnd q hq
  have h9 : (2 : Nat) ^ n ≤ 2 ^ 9 := Nat.pow_le_pow_right (by decide) hn
  have e9 : (2 : Nat) ^ 9 = 512 := by decide
  have c : 2 * ivs.length * (9 * 2 ^ (14 * n)) ≤ 2 ^ 14 * 2 ^ (14 * n) := by
    rw [← Nat.mul_assoc]
    exact Nat.mul_le_mul_right _ (by have : (2 : Nat) ^ 14 = 16384 := by decide
                                     omega)
  have e2 : (2 : Nat) ^ (14 * (n + 1)) = 2 ^ 14 * 2 ^ (14 * n) := by rw [← Nat.pow_add]; congr 1; omega
  omega
end RA
set_option Elab.async false
set_option linter.all false
set_option maxRecDepth 100000
set_option maxHeartbeats 4000000
/-! list(d.values()), {}, d.get(k, x), max and min of two, by data. -/
namespace RA
open PySem PySem.Spec PyProof.Rows L2 Evl
def tListVals (te : TE) : TE := fun σ H Q => te σ H fun x H1 => ∃ (a : Addr) (kvs : List (Key × V)), x = .ref a ∧ H1 a = some (.dK kvs) ∧ ∀ p, H1 p = none → Q (.ref p) (upd H1 p (.lst (kvs.map (·.2))))
theorem vals_snd : ∀ {kvs : List (Key × V)} {vs : List (Key × Value)}, KV kvs vs → ∀ {j : Nat} {k : Key} {u : Value}, vs[j]? = some (k, u) → ∃ x, kvs[j]? = some (k, x) ∧ RelV x u
  | _, _, .nil, _, _, _, e => by simp at e
  | _, _, .cons (a := a) (b := b) h t, 0, k, u, e => by
    simp only [List.getElem?_cons_zero, Option.some.injEq] at e
    subst e
    refine ⟨a.2, ?_, h.2⟩
    rw [List.getElem?_cons_zero]
    have h1 : a.1 = k := h.1
    rw [← h1]
  | _, _, .cons h t, j + 1, k, u, e => by simpa using vals_snd t (by simpa using e)
section
variable {X : Cx} {e : Expr} {te : TE} {p apos cpos pos : Pos}
theorem pe_listValues (hc : X.calm = true) (he : PE X e te) (hg : Gl X "list") (hm : X.mg "list" = none) (hv : bootBuiltins "list" = some (.type "list")) (hbase : attributeBase e "values" X.env (eval e X.env) = eval e X.env := by rfl) (hline : (apos.endLine == cpos.line) = true := by rfl)
    (hs : starEach [.Call (.Attribute e "values" apos) [] [] cpos] X.env = (false, eval (.Call (.Attribute e "values" apos) [] [] cpos) X.env) :: starEach [] X.env := by rfl) :
    PE X (.Call (.Name "list" p) [.Call (.Attribute e "values" apos) [] [] cpos] [] pos) (tListVals te) := by
  refine ⟨fun pins s σ H Q I hq => ?_⟩
  refine wpAny_Call_Name_kw (ld_blt I hg hm hv ?_)
  refine PyProof.Rows.callWith_type1 ?_ hs rfl
  rw [hs]
  show wpAny _ _ (spliced ((false, eval (.Call (.Attribute e "values" apos) [] [] cpos) X.env) :: backTo pos (starEach [] X.env))) _ _ s
  refine Calls.spliced_cons ?_
  refine wpAny_Call_method (T := "dict") (id := "dict.values") hbase rfl hline F.plainAttrs_dict F.slot_dict_values F.type_dict_values (thn (he.run pins s σ H _ I hq) fun u s1 ⟨x, H1, I1, rx, d, kvs, ex, hd, q⟩ => ?_)
  subst ex
  obtain rfl : u = Value.ref d := rx
  obtain ⟨hz, hs0, vs, kv, hdo⟩ := I1.hok d _ hd
  obtain ⟨ep, hat⟩ := hdo.dictAt
  have lk : kvs.length = vs.length := Paired.length kv
  have I2 : Inv X pins σ H1 { s1 with heap := s1.heap.push { cls := .type "dict_values", data := .fields #[.ref d] } } := I1.kept (t' := s1.toks) fun b ob q => Heap.get?_push_of_some _ q
  refine ⟨hdo.typeIs, hdo.mapOf.noDict, ?_⟩
  show wpAny _ _ (callWith cpos (.builtin "dict.values") [.ref d] [] []) _ X.xe s1
  refine method_meetsIn F.slot_dict_values F.entry_dict_values rfl (PySem.evalArgs_none ⟨rfl, hdo.typeIs, F.args_dict_values_1 _, _, meets_dict_values (mixKind X.prog X.w) d hs0, ⟨vs, hdo⟩, ?_⟩)
  refine Calls.spliced_nil ?_
  refine PySem.W.kdl_call (PySem.W.kdl_values (knd := mixKind X.prog X.w) (kvs := vs) (ep := ep)) (I1.ok.hd hc) ⟨⟨_, Heap.get?_push_size _ rfl, rfl, rfl⟩, hat.push _⟩ (by omega) fun h' tk acc' c' hkeep hS hacc => ?_
  refine ⟨.ref _, upd H1 _ (.lst (kvs.map (·.2))), I2.laid hkeep (Nat.le_refl _) (show ObjOk X.prog X.w _ _ _ (.lst (kvs.map (·.2))) from ⟨?_, acc'.toList, c', ?_, ?_⟩), rfl, q _ (I2.hok.fresh (Nat.le_refl _))⟩
  · rw [List.length_map]; exact hz
  · have el : acc'.toList.length = acc'.size := by simp
    refine vals_of_at (by rw [List.length_map, el, hacc.1, lk]) fun j x w h1 h2 => ?_
    obtain ⟨k, hky⟩ := hacc.2 j w (by rw [← Array.getElem?_toList]; exact h2)
    obtain ⟨y, hy, hr⟩ := vals_snd kv hky
    rw [List.getElem?_map, hy] at h1
    cases h1
    exact hr
  · rw [Array.toArray_toList]; exact hS
end
section
variable {K : PySem.W.Frag} {te ta tb tx : TE} {tl : TA} {ts : TSt} {m : Mem} {P : D → Mem → Prop} {d dx : D}
theorem snd_dens {H : Hp} : ∀ {ws : List (Key × V)} {kvs : List (Key × D)}, KvR K H ws kvs → Dens K H (ws.map (·.2)) (kvs.map (·.2))
  | _, _, .nil => .nil
  | _, _, .cons h t => .cons h.2 (snd_dens t)
theorem ev_listVals {k : Nat} {a : Addr} {kvs : List (Key × D)} (h : EvD K te ts m (.ref a)) (hk : m[k]? = some (a, .dic kvs)) : EvD K (tListVals te) ts m (.lst (kvs.map (·.2))) := fun σ H M S Q q =>
  h σ H M S _ fun v H1 d' m' ⟨e1, e2⟩ M1 x1 r1 => by
    subst e1; subst e2
    obtain ⟨ws, hw, kv⟩ := M1.cell hk
    refine ⟨a, ws, r1.ref_of, hw, fun p hp => q _ _ _ _ ⟨rfl, rfl⟩ (M1.new hp) (x1.trans (ex_new hp)) (.lst (SqL.of (vis_new M1 hp)) ((snd_dens kv).mono (ex_new hp)))⟩
/-- {} -/
theorem ev_dnew (hP : ∀ p, p ∉ m.map (·.1) → P (.ref p) ((p, .dic []) :: m)) : EvP K tDNewK ts m P := fun σ H M S Q q => fun p hp =>
  q _ _ _ _ (hP p (M.fresh hp)) (M.add hp ⟨[], upd_same, .nil⟩) (ex_add hp) (.ref p)
/-- d.get(k, x) -/
theorem ev_dget2 {i : Nat} {a : Addr} {kvs : List (Key × D)} {k : Key} (ha : EvD K ta ts m (.ref a)) (hb : EvD K tb ts m (kD k)) (hx : EvD K tx ts m dx) (hk : m[i]? = some (a, .dic kvs)) : EvD K (tDGet2 ta tb tx) ts m ((valD kvs k).getD dx) := fun σ H M S Q q =>
  ha σ H M S _ fun v H1 d' m' ⟨e1, e2⟩ M1 x1 r1 => by
    subst e1; subst e2
    obtain ⟨ws0, hw0, kv0⟩ := M1.cell hk
    refine ⟨a, r1.ref_of, ?_, hb σ H1 M1 (S.mono x1) _ fun y H2 d' m' ⟨e1, e2⟩ M2 x2 r2 => ?_⟩
    · exact .inl ⟨ws0, .inl hw0⟩
    subst e1; subst e2
    refine hx σ H2 M2 (S.mono (x1.trans x2)) _ fun z H3 d' m' ⟨e1, e2⟩ M3 x3 r3 => ?_
    subst e1; subst e2
    obtain ⟨ws, hw, kv⟩ := M3.cell hk
    rw [den_key r2]
    refine ⟨valV ws k, .inl ⟨ws, k, .inl hw, rfl, rfl⟩, ?_⟩
    rcases KvR.val kv k with ⟨h1, h2⟩ | ⟨dd, vv, h1, h2, r⟩
    · rw [h2]; exact q _ _ _ _ ⟨by rw [h1]; rfl, rfl⟩ M3 (x1.trans (x2.trans x3)) r3
    · rw [h2]; exact q _ _ _ _ ⟨by rw [h1]; rfl, rfl⟩ M3 (x1.trans (x2.trans x3)) r
/-- max, min of a list of numbers -/
theorem cb_max {ns : List Int} {x : Int} (hx : x ∈ ns) (hl : ∀ y ∈ ns, y ≤ x) : CbD K (rMax K) [.lst (ns.map .int)] m (.int x) := fun vs H M r Q q => by
  obtain ⟨v, rfl, r1⟩ := r.one
  obtain ⟨a, xs, rfl, hs, hd⟩ := r1.lst_of
  rw [hd.ints_of] at hs
  refine ⟨a, ns, rfl, ex_l vis_ex hs, List.length_pos_of_mem hx, fun z hz hz2 => ?_⟩
  have : z = x := by have := hl z hz; have := hz2 x hx; omega
  subst this
  exact q _ H M (Ex.refl _) (.int _)
theorem cb_min {ns : List Int} {x : Int} (hx : x ∈ ns) (hl : ∀ y ∈ ns, x ≤ y) : CbD K (rMin K) [.lst (ns.map .int)] m (.int x) := fun vs H M r Q q => by
  obtain ⟨v, rfl, r1⟩ := r.one
  obtain ⟨a, xs, rfl, hs, hd⟩ := r1.lst_of
  rw [hd.ints_of] at hs
  refine ⟨a, ns, rfl, ex_l vis_ex hs, List.length_pos_of_mem hx, fun z hz hz2 => ?_⟩
  have : z = x := by have := hl z hz; have := hz2 x hx; omega
  subst this
  exact q _ H M (Ex.refl _) (.int _)
end
end RA
set_option Elab.async false
set_option linter.all false
set_option maxRecDepth 100000
set_option maxHeartbeats 4000000
/-! What the defs of rows of tosses do, by data. -/
namespace RA
open PySem PySem.Spec PyProof.Rows L2 Evl
def optD : Option Int → D
  | none => .non
  | some i => .int i
def R_later_states (G : Gam) : Rl := fun ds m P => ∃ j k s, ds = [.int j, .int k, .int s] ∧ P (.rt (.tup [optD (nextU j s), optD (nextDn k s)]) m)
def noneR (u d j k n : Int) : Rat := Rat.divInt (sumF u d j k n.toNat fun _ => 1) ((u + d) ^ n.toNat)
def R_none_in (G : Gam) : Rl := fun ds m P => ∃ u d j k n, ds = [coinD G u d, j, k, n] ∧ Share u ∧ Share d ∧ Flat j ∧ Flat k ∧ Flat n ∧ (withinD n 0 200 = true → intD n ≤ 9) ∧
  P (runOc G j 40 m (runOc G k 40 m (countOc G n 0 200 m (.rt (frD (noneR u d (intD j) (intD k) (intD n))) m))))
def R__law_weight (G : Gam) : Rl := fun ds m P => ∃ (u d j k : Int) (r : List Int), ds = [pairD u d, .int j, .int k, intsT r] ∧ Share u ∧ Share d ∧ Run j ∧ Run k ∧ r.length ≤ 9 ∧ (∀ b ∈ r, b = 0 ∨ b = 1) ∧ P (.rt (.int (wgt u d j k r)) m)
def R__law_rows (G : Gam) : Rl := fun ds m P => ∃ n : Int, ds = [.int n] ∧ 0 ≤ n ∧ n ≤ 9 ∧ P (.rt (.lst ((rowsL n.toNat).map intsT)) m)
def countTold (n : D) (o : D) : D := if withinD n 0 200 = true then o else badCountD n
def R__law_refused_k04 (G : Gam) : Rl := fun ds m P => ∃ u d j k n, ds = [coinD G u d, j, k, n] ∧ Share u ∧ Share d ∧ Flat j ∧ Flat k ∧ Flat n ∧ (withinD n 0 200 = true → intD n ≤ 9) ∧ P (.rt (runTold j (runTold k (countTold n .non))) m)
end RA
set_option Elab.async false
set_option linter.all false
set_option maxRecDepth 100000
set_option maxHeartbeats 1000000
/-! Data that is equal to itself; comparisons with objects that change. -/
namespace RA
open PySem PySem.Spec PyProof.Rows L2 Evl
def Lay (d : D) (n : Nat) : Prop := ∃ p, pyD d = some p ∧ PyData.canLay0 p = true ∧ PyData.depth p ≤ n
theorem Lay.mono {d : D} {n k : Nat} (h : Lay d n) (l : n ≤ k) : Lay d k := by obtain ⟨p, a, b, c⟩ := h; exact ⟨p, a, b, Nat.le_trans c l⟩
theorem lay_non (n : Nat) : Lay .non n := ⟨_, rfl, rfl, Nat.zero_le _⟩
theorem lay_bl (b : Bool) (n : Nat) : Lay (.bl b) n := ⟨_, rfl, rfl, Nat.zero_le _⟩
theorem lay_int (i : Int) (n : Nat) : Lay (.int i) n := ⟨_, rfl, rfl, Nat.zero_le _⟩
theorem lay_str {x : Str} (n : Nat) (h : PyData.canLay0 (.str x) = true) : Lay (.str x) n := ⟨_, rfl, h, Nat.zero_le _⟩
theorem lays {n : Nat} : ∀ {ds : List D}, (∀ d ∈ ds, Lay d n) → ∃ ps, pyDs ds = some ps ∧ PyData.canLayAll0 ps = true ∧ PyData.depthAll ps ≤ n
  | [], _ => ⟨[], rfl, rfl, Nat.zero_le _⟩
  | d :: ds, h => by
    obtain ⟨p, a, b, c⟩ := h d List.mem_cons_self
    obtain ⟨ps, a2, b2, c2⟩ := lays (fun x hx => h x (List.mem_cons_of_mem _ hx))
    refine ⟨p :: ps, ?_, ?_, ?_⟩
    · simp only [pyDs, a, a2]
    · show (PyData.canLay0 p && PyData.canLayAll0 ps) = true
      rw [b, b2]; rfl
    · show max (PyData.depth p) (PyData.depthAll ps) ≤ n
      omega
theorem lay_tup {ds : List D} {n : Nat} (h : ∀ d ∈ ds, Lay d n) : Lay (.tup ds) (n + 1) := by
  obtain ⟨ps, a, b, c⟩ := lays h
  exact ⟨.tuple ps, by simp only [pyD, a, Option.map_some], b, by show PyData.depthAll ps + 1 ≤ n + 1; omega⟩
theorem lay_lst {ds : List D} {n : Nat} (h : ∀ d ∈ ds, Lay d n) : Lay (.lst ds) (n + 1) := by
  obtain ⟨ps, a, b, c⟩ := lays h
  exact ⟨.list ps, by simp only [pyD, a, Option.map_some], b, by show PyData.depthAll ps + 1 ≤ n + 1; omega⟩
theorem Lay.shaped {d : D} {n : Nat} (h : Lay d n) (hn : n ≤ 64) : ∃ p, pyD d = some p ∧ SeqAt.shaped p = true ∧ PyData.eqv p p = true := by
  obtain ⟨p, a, b, c⟩ := h
  refine ⟨p, a, ?_, PySem.SeqAt.eqv_refl p b⟩
  unfold SeqAt.shaped
  rw [b, Bool.true_and]
  exact decide_eq_true (by omega)
section
variable {K : PySem.W.Frag} {E : XK} {te ta tb : TE} {ts : TSt} {m : Mem} {P : D → Mem → Prop} {d d1 d2 : D} {n : Nat}
theorem e_eqSame (ha : EvD K ta ts m d) (hb : EvD K tb ts m d) (h : Lay d n) (hn : n ≤ 64) : EvD K (tOp (rEqD K) ta tb) ts m (.bl true) := by
  obtain ⟨p, a, b, c⟩ := h.shaped hn
  exact EvD.is (ev_eqD ha hb a a b b) (by rw [c])
theorem e_neSame (ha : EvD K ta ts m d) (hb : EvD K tb ts m d) (h : Lay d n) (hn : n ≤ 64) : EvD K (tOp (rNeD K) ta tb) ts m (.bl false) := by
  obtain ⟨p, a, b, c⟩ := h.shaped hn
  exact EvD.is (ev_neD ha hb a a b b) (by rw [c]; rfl)
theorem t_neSame (ha : EvD K ta ts m d) (hb : EvD K tb ts m d) (h : Lay d n) (hn : n ≤ 64) : EvT K (tTest (tOp (rNeD K) ta tb)) ts m false := et_test (e_neSame ha hb h hn)
theorem od_ne {x : Bool} (h : eqF d1 d2 = some x) : OpD K rNe d1 d2 m (.bl (!x)) := fun v w H M r1 r2 Q q => by
  obtain ⟨h1, h2⟩ := eqF_ok r1 r2 h
  refine ⟨h1, ?_⟩
  rw [h2]; exact q _ H M (Ex.refl _) (.bl (!x))
theorem od_neD {p1 p2 : PyData} (h1 : pyD d1 = some p1) (h2 : pyD d2 = some p2) (s1 : SeqAt.shaped p1 = true) (s2 : SeqAt.shaped p2 = true) : OpD K (rNeD K) d1 d2 m (.bl (!PyData.eqv p1 p2)) := fun v w H M r1 r2 Q q =>
  ⟨p1, p2, Dp.mono vis_ex (pyD_ok r1 h1), Dp.mono vis_ex (pyD_ok r2 h2), s1, s2, q _ H M (Ex.refl _) (.bl _)⟩
theorem od_eqD {p1 p2 : PyData} (h1 : pyD d1 = some p1) (h2 : pyD d2 = some p2) (s1 : SeqAt.shaped p1 = true) (s2 : SeqAt.shaped p2 = true) : OpD K (rEqD K) d1 d2 m (.bl (PyData.eqv p1 p2)) := fun v w H M r1 r2 Q q =>
  ⟨p1, p2, Dp.mono vis_ex (pyD_ok r1 h1), Dp.mono vis_ex (pyD_ok r2 h2), s1, s2, q _ H M (Ex.refl _) (.bl _)⟩
theorem od_neSame (h : Lay d n) (hn : n ≤ 64) : OpD K (rNeD K) d d m (.bl false) := by
  obtain ⟨p, a, b, c⟩ := h.shaped hn
  have := od_neD (K := K) (m := m) a a b b
  rw [c] at this
  exact this
theorem od_eqSame (h : Lay d n) (hn : n ≤ 64) : OpD K (rEqD K) d d m (.bl true) := by
  obtain ⟨p, a, b, c⟩ := h.shaped hn
  have := od_eqD (K := K) (m := m) a a b b
  rw [c] at this
  exact this
/-- x is not None, x None made with effects -/
theorem ev_notNP (h : EvP K ta ts m fun d m' => d = .non ∧ P (.bl false) m') : EvP K (tNotN ta) ts m P := fun σ H M S Q q =>
  h σ H M S _ fun v H1 d' m' ⟨e1, p⟩ M1 x1 r1 => by
    subst e1
    rw [r1.non_of]
    exact q _ H1 _ _ p M1 x1 (.bl false)
theorem cb_max2 {i j : Int} : CbD K rMax2 [.int i, .int j] m (.int (if j > i then j else i)) := fun vs H M r Q q => by
  obtain ⟨v, w, rfl, r1, r2⟩ := r.two
  rw [r1.int_of, r2.int_of]
  exact ⟨i, j, rfl, q _ H M (Ex.refl _) (.int _)⟩
theorem cut_take {ds : List D} {k : Int} (h0 : 0 ≤ k) : cutD ds none (some k) = ds.take k.toNat := by
  unfold cutD
  have e1 : HT.sIx ds.length 0 none = 0 := rfl
  have e2 : HT.sIx ds.length ds.length (some k) = min k.toNat ds.length := by
    show (if k < 0 then _ else _) = _
    rw [if_neg (by omega)]
  rw [e1, e2, List.drop_zero, Nat.sub_zero]
  rcases Nat.le_total k.toNat ds.length with h | h
  · rw [Nat.min_eq_left h]
  · rw [Nat.min_eq_right h, List.take_length, List.take_of_length_le h]
theorem cut_drop {ds : List D} {k : Int} (h0 : 0 ≤ k) : cutD ds (some k) none = ds.drop k.toNat := by
  unfold cutD
  have e1 : HT.sIx ds.length ds.length none = ds.length := rfl
  have e2 : HT.sIx ds.length 0 (some k) = min k.toNat ds.length := by
    show (if k < 0 then _ else _) = _
    rw [if_neg (by omega)]
  rw [e1, e2]
  rcases Nat.le_total k.toNat ds.length with h | h
  · rw [Nat.min_eq_left h, List.take_of_length_le (by rw [List.length_drop]; omega)]
  · rw [Nat.min_eq_right h, List.drop_of_length_le (Nat.le_refl _), List.drop_of_length_le h]; simp
end
theorem lay_fr (q : Rat) : Lay (frD q) 1 := lay_tup fun d hd => by
  simp only [List.mem_cons, List.not_mem_nil, or_false] at hd
  rcases hd with rfl | rfl <;> exact lay_int _ _
end RA
set_option Elab.async false
set_option linter.all false
set_option maxRecDepth 100000
set_option maxHeartbeats 4000000
/-! len of an own class's instance; letting go of objects; pop, extend, reverse, clear; copies of lists that change. -/
namespace RA
open PySem PySem.Spec PyProof.Rows L2 Evl
structure HasL (P : Program) (w : World) (K : PySem.W.Frag) (mg : Str → Option Value) (base : Heap) (C : Addr) (k : Nat) (ps : List Str) (sp : Sp) : Prop where
  ex : ∃ f fd, PySem.W.findIn K (.ref C) "__len__" = some (some (.ref f)) ∧ PySem.W.isFn K (.ref f) = true ∧ Binds K fd ps [] ∧ FnOk P w K mg base (L2.CX P w) k f fd ps sp
def rLenOwn (C : Addr) (sp : Sp) (E : XK) : List V → Hp → VK → Prop := fun xs H Q => ∃ a dx fs, xs = [.ref a] ∧ H a = some (.ins C dx fs) ∧ sp [.ref a] H (fun v H' => ∃ n : Int, v = .int n ∧ 0 ≤ n ∧ n < 2 ^ 63 ∧ Q (.int n) H') E
theorem call_lenOwn {X : Cx} {C : Addr} {k : Nat} {p : Str} {sp : Sp} {E : XK} (F : HasL X.prog X.w X.K X.mg X.base C k [p] sp) (hr : Room (k + 1) X.A) (hx : Passes (L2.CX X.prog X.w) X E) : CallR X (.builtin "len") (rLenOwn C sp E) := by
  intro pins s σ H xs us Q I r h
  obtain ⟨f, fd, hs, hf, hb, FF⟩ := F.ex
  obtain ⟨a, dx, fs, rfl, ha, q⟩ := h
  obtain ⟨u, rfl, rx⟩ := vals1 r
  cases (show u = Value.ref a from rx)
  obtain ⟨mA, J, _⟩ := ins_get I.hok ha
  obtain ⟨od, J, _⟩ := J.look
  obtain ⟨m, hF⟩ := I.fr
  refine PySem.W.len_K hF I.ok.mod.kin J hs hf ?_
  refine wpAny_call (codeAny_mono (FF.run X.A.in1 X.stack s H ⟨[.ref a], []⟩ [.ref a] [.ref a] _ E hr.in1 I.env0.in1 (hb s [.ref a] I.kIn rfl) (.cons rfl .nil) q) fun r s' hq => ?_)
  cases r with
  | error e => exact hx pins σ H s e s' I hq
  | ok fl =>
    cases fl with
    | ret u =>
      obtain ⟨z, H', I', rz, n, rfl, h0, h1, qz⟩ := I.after hq
      obtain ⟨t, rfl⟩ := (show ∃ t, u = Value.int n t from rz)
      exact ⟨⟨h0, h1⟩, .int n, H', I'.kept (h' := s'.heap) (t' := s'.toks + 1) fun b ob q => q, ⟨_, rfl⟩, qz⟩
    | next => exact False.elim hq
    | brk => exact False.elim hq
    | cont => exact False.elim hq
section
variable {K : PySem.W.Frag} {E : XK} {R : Rl} {tl : TA} {te ta : TE} {ts : TSt} {m : Mem} {P : D → Mem → Prop} {d : D} {ds es : List D} {C : Addr} {fs : List (Str × D)}
theorem cb_lenOwn {k : Nat} {x : Addr} {n : Int} (hk : m[k]? = some (x, .ins C fs)) (h0 : 0 ≤ n) (h1 : n < 2 ^ 63) (hR : R [.ref x] m (Ends2 (fun d' m' => d' = .int n ∧ m' = m) noX)) : CbD K (rLenOwn C (SpD K R) E) [.ref x] m (.int n) := fun vs H M r Q q => by
  obtain ⟨v, rfl, r1⟩ := r.one
  obtain ⟨dx, ws, hx, hd⟩ := M.cell hk
  refine ⟨x, dx, ws, by rw [r1.ref_of], hx, m, [.ref x], _, M, .cons (.ref x) .nil, hR, fun o p => ?_⟩
  cases o with
  | rt d m1 =>
    obtain ⟨rfl, rfl⟩ := p
    intro v H1 M1 x1 r2
    exact ⟨n, r2.int_of, h0, h1, q _ H1 M1 x1 (.int n)⟩
  | nx ts m => exact p.elim
  | bk ts m => exact p.elim
  | ct ts m => exact p.elim
  | ra C fs m => exact p.elim
/-! letting go -/
theorem sub_keys {m m' : Mem} (h : m'.Sublist m) : (m'.map (·.1)).Sublist (m.map (·.1)) := h.map _
theorem vis_sub {m m' : Mem} (h : m'.Sublist m) {H : Hp} : Ex (vis m H) (vis m' H) := fun a o e => by
  obtain ⟨h1, h2⟩ := vis_some e
  rw [vis_out (fun z => h2 ((sub_keys h).subset z))]; exact h1
theorem MemOk.sub {m m' : Mem} {H : Hp} (M : MemOk K H m) (h : m'.Sublist m) : MemOk K H m' :=
  ⟨M.nd.sublist (sub_keys h), fun p hp => (M.at_ p (h.subset hp)).mono (vis_sub h) rfl⟩
/-- what is no longer asked for is let go -/
def subP (P : Oc → Prop) : Oc → Prop
  | .nx ts m => ∃ m', m'.Sublist m ∧ P (.nx ts m')
  | .rt d m => ∃ m', m'.Sublist m ∧ P (.rt d m')
  | .bk ts m => P (.bk ts m)
  | .ct ts m => P (.ct ts m)
  | .ra C fs m => P (.ra C fs m)
theorem ExS.sub {t : TS} {PO : Oc → Prop} (h : ExS K E t ts m (subP PO)) : ExS K E t ts m PO := fun σ H De M S kk => h σ H De M S fun o p => by
  cases o with
  | rt d m1 =>
    obtain ⟨m', hs, p⟩ := p
    intro v H1 M1 x1 r1
    exact kk _ p v H1 (M1.sub hs) (x1.trans (vis_sub hs)) (r1.mono (vis_sub hs))
  | nx ts m1 =>
    obtain ⟨m', hs, p⟩ := p
    intro σ1 H1 M1 x1 S1
    exact kk _ p σ1 H1 (M1.sub hs) (x1.trans (vis_sub hs)) (S1.mono (vis_sub hs))
  | bk ts m => exact kk _ p
  | ct ts m => exact kk _ p
  | ra C fs m => exact kk _ p
/-! lists that change -/
theorem ev_listOfM {k : Nat} {l : Addr} (h : EvD K te ts m (.ref l)) (hk : m[k]? = some (l, .lst ds)) (hP : ∀ p, p ∉ m.map (·.1) → P (.ref p) ((p, .lst ds) :: m)) : EvP K (tCB (rListOf K) (tCons te tNil)) ts m P := fun σ H M S Q q =>
  h σ H M S _ fun v H1 d' m' ⟨e1, e2⟩ M1 x1 r1 => by
    subst e1; subst e2
    obtain ⟨xs, hs, hd⟩ := M1.cell hk
    refine ⟨l, xs, by rw [r1.ref_of], .inl (SqL.of hs), fun p hp => q _ _ _ _ (hP p (M1.fresh hp)) (M1.add hp ⟨xs, upd_same, hd⟩) (x1.trans (ex_add hp)) (.ref p)⟩
/-- a copy that changes, of a list that stands still -/
theorem ev_listOfL (h : EvP K te ts m fun d m1 => ∃ ds, d = .lst ds ∧ ∀ p, p ∉ m1.map (·.1) → P (.ref p) ((p, .lst ds) :: m1)) : EvP K (tCB (rListOf K) (tCons te tNil)) ts m P := fun σ H M S Q q =>
  h σ H M S _ fun v H1 d' m' ⟨ds, e1, hP⟩ M1 x1 r1 => by
    subst e1
    obtain ⟨l, xs, rfl, hs, hd⟩ := r1.lst_of
    refine ⟨l, xs, rfl, .inl (ex_l vis_ex hs), fun p hp => q _ _ _ _ (hP p (M1.fresh hp)) (M1.add hp ⟨xs, upd_same, hd⟩) (x1.trans (ex_add hp)) (.ref p)⟩
/-- xs.pop() -/
theorem ev_pop {k : Nat} {l : Addr} (ha : EvD K ta ts m (.ref l)) (hk : m[k]? = some (l, .lst ds)) (hd : ds[ds.length - 1]? = some d) (p : P d (m.set k (l, .lst ds.dropLast))) : EvP K (tBM K "list" rPop ta tNil) ts m P := fun σ H M S Q q =>
  ha σ H M S _ fun v H1 d' m' ⟨e1, e2⟩ M1 x1 r1 => by
    subst e1; subst e2
    obtain ⟨xs, hs, hds⟩ := M1.cell hk
    rw [r1.ref_of]
    obtain ⟨y, hy, ry⟩ := hds.get hd
    refine ⟨.inl ⟨rfl, xs, SqL.of hs⟩, l, xs, y, rfl, rfl, hs, by rw [hds.length]; exact hy, ?_⟩
    have Mw : MemOk K (upd H1 l (.lst xs.dropLast)) (m'.set k (l, .lst ds.dropLast)) := M1.write hk ⟨_, upd_same, by
      have e1 : xs.dropLast = xs.take (xs.length - 1) := List.dropLast_eq_take
      have e2 : ds.dropLast = ds.take (ds.length - 1) := List.dropLast_eq_take
      rw [e1, e2, hds.length]
      exact hds.take _⟩
    exact q _ _ _ _ p Mw (x1.trans (ex_write hk)) (ry.mono (ex_write hk))
end
end RA
set_option Elab.async false
set_option linter.all false
set_option maxRecDepth 100000
set_option maxHeartbeats 1000000
/-! Comprehensions with two fors; lists that are handed on; list * int. -/
namespace RA
open PySem PySem.Spec PyProof.Rows L2 Evl
section
variable {K : PySem.W.Frag} {ts : TSt} {m : Mem} {wi wi1 : TI} {g g1 : TG} {tt tt1 : TT} {te : TE} {ws ws1 : List Nat} {ds : List D} {P : D → Mem → Prop}
/-- [v for d in ds for e in es d]: the new list is in the memory -/
theorem ev_lc2 (hw : WkD K wi ts m (fun _ => True) ds) (es : D → List D) (v : D → D → D) (hz : (ds.flatMap fun d => (es d).map (v d)).length ≤ 100000)
    (hs : ∀ d l acc, d ∈ ds → ∃ ts2, GtD K g ws d (wipeT ts ws) ((l, .lst acc) :: m) ts2 ∧ EvT K tt ts2 ((l, .lst acc) :: m) true ∧ WkD K wi1 ts2 ((l, .lst acc) :: m) (fun _ => True) (es d) ∧
      ∀ e acc', e ∈ es d → ∃ ts3, GtD K g1 ws1 e (wipeT ts2 ws1) ((l, .lst acc') :: m) ts3 ∧ EvT K tt1 ts3 ((l, .lst acc') :: m) true ∧ EvD K te ts3 ((l, .lst acc') :: m) (v d e))
    (hd : ∀ l, l ∉ m.map (·.1) → P (.ref l) ((l, .lst (ds.flatMap fun d => (es d).map (v d))) :: m)) : EvP K (tLc2 wi g tt wi1 g1 tt1 te ws ws1) ts m P := fun σ H M S Q q => by
  refine hw σ H M S _ fun J H1 M1 x1 hJ => fun Dl hDl => ?_
  have x1' : Ex (vis m H) (vis m H1) := x1
  let A : Nat → List D := fun i => (ds.take i).flatMap fun d => (es d).map (v d)
  have lA : ∀ (i : Nat) (n : Nat) (d : D), ds[i]? = some d → n ≤ (es d).length → (A i ++ ((es d).take n).map (v d)).length ≤ 100000 := fun i n d hd hn => by
    have e1 : ds = ds.take i ++ d :: ds.drop (i + 1) := by
      have hi : i < ds.length := (List.getElem?_eq_some_iff.mp hd).1
      have hg : ds[i] = d := (List.getElem?_eq_some_iff.mp hd).2
      rw [← hg]
      exact (List.take_append_drop i ds).symm.trans (by rw [List.drop_eq_getElem_cons hi])
    have e2 := hz
    rw [e1, List.flatMap_append, List.flatMap_cons] at e2
    simp only [List.length_append, List.length_map] at e2 ⊢
    have : ((es d).take n).length ≤ (es d).length := by rw [List.length_take]; omega
    show (A i).length + _ ≤ _
    have e3 : (A i).length = ((ds.take i).flatMap fun d => (es d).map (v d)).length := rfl
    omega
  refine ⟨fun i n H' => n = ds.length - i ∧ i ≤ ds.length ∧ MemOk K H' ((Dl, .lst (A i)) :: m) ∧ Ex (vis m H1) (vis ((Dl, .lst (A i)) :: m) H'), ⟨_, rfl, Nat.zero_le _, M1.add hDl ⟨[], upd_same, .nil⟩, ex_add hDl⟩, ?_⟩
  rintro i n H' ⟨rfl, hi, M', x'⟩
  obtain ⟨js, jg⟩ := hJ _ H' trivial M' x'
  have nDl : Dl ∉ m.map (·.1) := by
    have nd := M'.nd
    simp only [List.map_cons, List.nodup_cons] at nd
    exact nd.1
  by_cases c : i = ds.length
  · left
    subst c
    have e1 : A ds.length = ds.flatMap fun d => (es d).map (v d) := by show (ds.take ds.length).flatMap _ = _; rw [List.take_length]
    rw [e1] at M' x'
    exact ⟨js _ (Nat.le_refl _), q _ H' _ _ (hd Dl nDl) M' (x1'.trans x') (.ref Dl)⟩
  · right
    have hl : i < ds.length := by omega
    have hget : ds[i]? = some ds[i] := List.getElem?_eq_getElem hl
    obtain ⟨hgo, hy⟩ := jg i _ hget
    generalize ds[i] = d at hget hy
    have eA : A (i + 1) = A i ++ (es d).map (v d) := by
      show (ds.take (i + 1)).flatMap _ = _
      rw [take_snoc hget, List.flatMap_append]; simp [A]
    obtain ⟨ts2, hg, hb, hw1, hin⟩ := hs d Dl (A i) (List.mem_of_getElem? hget)
    refine ⟨hgo, fun H2 => MemOk K H2 ((Dl, .lst (A (i + 1))) :: m) ∧ Ex (vis m H1) (vis ((Dl, .lst (A (i + 1))) :: m) H2), ?_, ?_⟩
    · rintro H2 ⟨M3, x3⟩
      exact ⟨ds.length - (i + 1), by omega, rfl, by omega, M3, x3⟩
    · intro x H3 hx
      obtain ⟨M3, x3, r3⟩ := hy x H3 hx
      have Sw : StOk K (vis ((Dl, .lst (A i)) :: m) H3) (L2.wipe σ ws) (wipeT ts ws) := (S.mono (x1'.trans (x'.trans x3))).wipe ws
      refine hg x _ H3 M3 r3 Sw _ fun σ4 e4 S4 => ⟨by rw [e4, wipe_idem], ?_⟩
      refine hb σ4 H3 M3 S4 _ fun b H5 m5 ⟨eb, em⟩ M5 x5 => ?_
      subst eb; subst em
      rw [if_pos rfl]
      refine hw1 σ4 H5 M5 (S4.mono x5) _ fun J1 H6 M6 x6 hJ1 => ?_
      refine ⟨fun jx n H7 => n = (es d).length - jx ∧ jx ≤ (es d).length ∧ MemOk K H7 ((Dl, .lst (A i ++ ((es d).take jx).map (v d))) :: m) ∧ Ex (vis ((Dl, .lst (A i)) :: m) H6) (vis ((Dl, .lst (A i ++ ((es d).take jx).map (v d))) :: m) H7), ⟨_, rfl, Nat.zero_le _, by simpa using M6, by simpa using Ex.refl _⟩, ?_⟩
      rintro jx n H7 ⟨rfl, hj, M7, x7⟩
      obtain ⟨js1, jg1⟩ := hJ1 _ H7 trivial M7 x7
      by_cases c1 : jx = (es d).length
      · left
        subst c1
        rw [List.take_length, ← eA] at M7 x7
        exact ⟨js1 _ (Nat.le_refl _), M7, x'.trans (x3.trans (x5.trans (x6.trans x7)))⟩
      · right
        have hl1 : jx < (es d).length := by omega
        have hget1 : (es d)[jx]? = some (es d)[jx] := List.getElem?_eq_getElem hl1
        obtain ⟨hgo1, hy1⟩ := jg1 jx _ hget1
        generalize (es d)[jx] = e at hget1 hy1
        have eB : A i ++ ((es d).take (jx + 1)).map (v d) = A i ++ ((es d).take jx).map (v d) ++ [v d e] := by
          rw [take_snoc hget1, List.map_append, List.append_assoc]; rfl
        have lB := lA i jx d hget hj
        have lB2 := lA i (jx + 1) d hget hl1
        obtain ⟨ts3, hg1, ht1, he1⟩ := hin e (A i ++ ((es d).take jx).map (v d)) (List.mem_of_getElem? hget1)
        refine ⟨hgo1, fun H2 => MemOk K H2 ((Dl, .lst (A i ++ ((es d).take (jx + 1)).map (v d))) :: m) ∧ Ex (vis ((Dl, .lst (A i)) :: m) H6) (vis ((Dl, .lst (A i ++ ((es d).take (jx + 1)).map (v d))) :: m) H2), ?_, ?_⟩
        · rintro H2 ⟨M8, x8⟩
          exact ⟨(es d).length - (jx + 1), by omega, rfl, by omega, M8, x8⟩
        · intro y H8 hy8
          obtain ⟨M8, x8, r8⟩ := hy1 y H8 hy8
          have Sw1 : StOk K (vis ((Dl, .lst (A i ++ ((es d).take jx).map (v d))) :: m) H8) (L2.wipe σ4 ws1) (wipeT ts2 ws1) := (S4.mono (x5.trans (x6.trans (x7.trans x8)))).wipe ws1
          refine hg1 y _ H8 M8 r8 Sw1 _ fun σ9 e9 S9 => ⟨by rw [e9, wipe_idem], ?_⟩
          refine ht1 σ9 H8 M8 S9 _ fun b H9 m9 ⟨eb, em⟩ M9 x9 => ?_
          subst eb; subst em
          rw [if_pos rfl]
          refine he1 σ9 H9 M9 (S9.mono x9) _ fun w H10 d10 m10 ⟨ed, em⟩ M10 x10 r10 => ?_
          subst ed; subst em
          obtain ⟨vs, hv, hr⟩ := M10.cell (k := 0) (l := Dl) (d := .lst (A i ++ ((es d).take jx).map (v d))) rfl
          refine ⟨vs, hv, sz_lt (by rw [hr.length]; rw [eB, List.length_append, List.length_cons, List.length_nil] at lB2; omega), ?_⟩
          rw [eB]
          exact ⟨M10.write (k := 0) (d := .lst (A i ++ ((es d).take jx).map (v d))) (d' := .lst (A i ++ ((es d).take jx).map (v d) ++ [v d e])) rfl ⟨_, upd_same, hr.append (.cons r10 .nil)⟩,
            x7.trans (x8.trans (x9.trans (x10.trans (ex_write (k := 0) (d := .lst (A i ++ ((es d).take jx).map (v d))) (d' := .lst (A i ++ ((es d).take jx).map (v d) ++ [v d e])) rfl))))⟩
/-- each item's test and value told by functions; the new list is in the memory -/
theorem ev_lcF (hw : WkD K wi ts m (fun _ => True) ds) (f : D → Bool) (v : D → D) (hz : ds.length ≤ 100000)
    (hs : ∀ d l acc, d ∈ ds → ∃ ts2, GtD K g ws d (wipeT ts ws) ((l, .lst acc) :: m) ts2 ∧ EvT K tt ts2 ((l, .lst acc) :: m) (f d) ∧ (f d = true → EvD K te ts2 ((l, .lst acc) :: m) (v d)))
    (hd : ∀ l, l ∉ m.map (·.1) → P (.ref l) ((l, .lst (lcD ds f v)) :: m)) : EvP K (tLc wi g tt te ws) ts m P := by
  refine ev_lcM hw (fun i acc m' => m' = m ∧ acc = lcD (ds.take i) f v) ⟨rfl, rfl⟩ hz (fun _ _ _ _ _ _ => trivial) ?_ ?_ ?_
  · rintro i acc m' ⟨_, rfl⟩
    unfold lcD
    rw [List.length_map]
    exact Nat.le_trans (List.length_filter_le _ _) (by rw [List.length_take]; omega)
  · rintro i d acc m1 l hi ⟨rfl, rfl⟩ hl
    obtain ⟨ts2, h1, h2, h3⟩ := hs d l (lcD (ds.take i) f v) (List.mem_of_getElem? hi)
    refine ⟨ts2, h1, h2.p ?_⟩
    have e : ∀ b, f d = b → lcD (ds.take (i + 1)) f v = if b = true then lcD (ds.take i) f v ++ [v d] else lcD (ds.take i) f v := fun b hb => by
      unfold lcD
      rw [take_snoc hi, List.filter_append, List.map_append]
      cases b with
      | true => simp [hb]
      | false => simp [hb]
    cases c : f d with
    | true =>
      rw [if_pos rfl]
      refine (h3 c).p ⟨_, rfl, rfl, ?_⟩
      rw [e true c, if_pos rfl]
    | false =>
      rw [if_neg Bool.false_ne_true]
      refine ⟨_, rfl, rfl, ?_⟩
      rw [e false c, if_neg Bool.false_ne_true]
  · rintro acc m1 l ⟨rfl, rfl⟩ hl
    rw [List.take_length]
    exact hd l hl
/-- a, b, c = x, y, z -/
theorem s_par3P {E : XK} {PO : Oc → Prop} {i j l : Nat} {tl : TA} (h : EvA K tl ts m fun ds m1 => ∃ d1 d2 d3, ds = [d1, d2, d3] ∧ PO (.nx (((ts.set i (some d1)).set j (some d2)).set l (some d3)) m1)) : ExS K E (tPar3 i j l tl) ts m PO := fun σ H De M S k =>
  h σ H M S _ fun vs H1 ds m1 ⟨d1, d2, d3, e1, p⟩ M1 x1 r1 => by
    subst e1
    cases r1 with
    | cons ra rr =>
      cases rr with
      | cons rb rr =>
        cases rr with
        | cons rc rn =>
          cases rn
          exact ⟨_, _, _, rfl, k _ p _ H1 M1 x1 ((((S.mono x1).set ra i).set rb j).set rc l)⟩
theorem EvP.sub (h : EvP K te ts m fun d m' => ∃ m1, m1.Sublist m' ∧ P d m1) : EvP K te ts m P := fun σ H M S Q q => h σ H M S Q fun v H' d m' ⟨m1, hs, p⟩ M' x' r' => q v H' d m1 p (M'.sub hs) (x'.trans (vis_sub hs)) (r'.mono (vis_sub hs))
/-- a list that was made does not change any more -/
theorem EvP.freeze (h : EvP K te ts m fun d m' => ∃ l ds m1, d = .ref l ∧ m' = (l, .lst ds) :: m1 ∧ P (.lst ds) m1) : EvP K te ts m P := fun σ H M S Q q => h σ H M S Q fun v H' d m' ⟨l, ds, m1, e1, e2, p⟩ M' x' r' => by
  subst e1; subst e2
  rw [r'.ref_of]
  exact q _ H' _ _ p M'.drop (x'.trans vis_cons_ex) M'.dropLst
/-- .. the first of the memory is handed back as it stands -/
theorem ExS.give {E : XK} {t : TS} {PO : Oc → Prop} (h : ExS K E t ts m fun o => match o with
    | .rt d m' => ∃ l ds m1, d = .ref l ∧ m' = (l, .lst ds) :: m1 ∧ PO (.rt (.lst ds) m1)
    | o => PO o) : ExS K E t ts m PO := fun σ H De M S kk => h σ H De M S fun o p => by
  cases o with
  | rt d m' =>
    obtain ⟨l, ds, m1, rfl, rfl, p⟩ := p
    intro v H1 M1 x1 r1
    rw [r1.ref_of]
    exact kk _ p _ H1 M1.drop (x1.trans vis_cons_ex) M1.dropLst
  | nx ts m => exact kk _ p
  | bk ts m => exact kk _ p
  | ct ts m => exact kk _ p
  | ra C fs m => exact kk _ p
theorem flat_reps (k : Nat) (H : Hp) {vs : List V} {ds : List D} (h : Dens K H vs ds) : Dens K H (List.replicate k vs).flatten (List.replicate k ds).flatten := by
  induction k with
  | zero => exact .nil
  | succ k ih => rw [List.replicate_succ, List.flatten_cons, List.replicate_succ, List.flatten_cons]; exact h.append ih
/-- xs * k, xs just made; the new list does not change -/
theorem ev_rep {ta tb : TE} {k : Int} {ds : List D} (ha : EvP K ta ts m fun d m' => ∃ l, d = .ref l ∧ m' = (l, .lst ds) :: m) (hb : ∀ l, EvD K tb ts ((l, .lst ds) :: m) (.int k)) (h0 : 0 ≤ k) (h1 : k ≤ 1000) (hz : ds.length ≤ 10) : EvD K (tOp rRep ta tb) ts m (.lst (List.replicate k.toNat ds).flatten) :=
  EvP.sub (ev_opP (EvP.imp ha fun d m' ⟨l, e1, e2⟩ => by
    subst e1; subst e2
    refine (hb l).p ⟨.lst (List.replicate k.toNat ds).flatten, fun v w H M r1 r2 Q q => ?_, m, List.Sublist.cons _ (List.Sublist.refl _), rfl, rfl⟩
    obtain ⟨vs, hv, hr⟩ := M.cell (k := 0) (l := l) (d := .lst ds) rfl
    rw [r1.ref_of, r2.int_of]
    refine ⟨l, k, vs, rfl, rfl, hv, by omega, by omega, ?_, fun p hp => ?_⟩
    · rw [hr.length]
      exact sz_of (Nat.le_trans (Nat.mul_le_mul hz (by omega : k.toNat ≤ 1000)) (by decide))
    · exact q _ _ (M.new hp) (ex_new hp) (.lst (SqL.of (vis_new M hp)) ((flat_reps k.toNat _ hr).mono (ex_new hp)))))
/-- .. the new list will change -/
theorem ev_repM {ta tb : TE} {k : Int} {ds : List D} (ha : EvP K ta ts m fun d m' => ∃ l, d = .ref l ∧ m' = (l, .lst ds) :: m) (hb : ∀ l, EvD K tb ts ((l, .lst ds) :: m) (.int k)) (h0 : 0 ≤ k) (h1 : k ≤ 1000) (hz : ds.length ≤ 10) (hP : ∀ p, p ∉ m.map (·.1) → P (.ref p) ((p, .lst (List.replicate k.toNat ds).flatten) :: m)) : EvP K (tOp rRep ta tb) ts m P := fun σ H M S Q q =>
  ha σ H M S _ fun v H1 d1 m1 ⟨l, e1, e2⟩ M1 x1 r1 => by
    subst e1; subst e2
    refine hb l σ H1 M1 (S.mono x1) _ fun w H2 d' m' ⟨e1, e2⟩ M2 x2 r2 => ?_
    subst e1; subst e2
    obtain ⟨vs, hv, hr⟩ := M2.cell (k := 0) (l := l) (d := .lst ds) rfl
    rw [r1.ref_of, r2.int_of]
    refine ⟨l, k, vs, rfl, rfl, hv, by omega, by omega, ?_, fun p hp => ?_⟩
    · rw [hr.length]
      exact sz_of (Nat.le_trans (Nat.mul_le_mul hz (by omega : k.toNat ≤ 1000)) (by decide))
    · have Md : MemOk K H2 m := M2.drop
      have np : p ∉ m.map (·.1) := Md.fresh hp
      have xd : Ex (vis ((l, .lst ds) :: m) H2) (vis m H2) := vis_cons_ex
      exact q _ _ _ _ (hP p np) (Md.add hp ⟨_, upd_same, (flat_reps k.toNat _ hr).mono xd⟩) (x1.trans (x2.trans (xd.trans (ex_add hp)))) (.ref p)
end
end RA
set_option Elab.async false
set_option linter.all false
set_option maxRecDepth 100000
set_option maxHeartbeats 4000000
/-! What the defs about coins that fit do, by data. -/
namespace RA
open PySem PySem.Spec PyProof.Rows L2 Evl
def pairD2 (p : Int × Int) : D := pairD p.1 p.2
def pairsD (l : List (Int × Int)) : List D := l.map pairD2
def sqL (n : Nat) : List (Int × Int) := (List.range n).flatMap fun i : Nat => (List.range n).map fun j : Nat => ((1 + (i : Int), 1 + (j : Int)) : Int × Int)
def coinsL : List (Int × Int) := (sqL 9).filter fun p => decide (Int.gcd p.1 p.2 = 1)
def isFracD : D → Bool
  | .tup [.int a, .int b] => decide (0 < b) && decide (Int.gcd a b = 1)
  | _ => false
/-- a value that may be told to be a fraction -/
def FrOk (d : D) : Prop := Flat d ∧ ∀ a b, d = .tup [a, b] → Flat a ∧ Flat b ∧ (∀ i, a = .int i → small9 i) ∧ (∀ i, b = .int i → small9 i)
def R_is_fraction (G : Gam) : Rl := fun ds m P => ∃ d, ds = [d] ∧ FrOk d ∧ P (.rt (.bl (isFracD d)) m)
def R_all_coins (G : Gam) : Rl := fun ds m P => ds = [] ∧ P (.rt (.lst (pairsD coinsL)) m)
def fairL (u d n : Int) : List (Int × Int) := (sqL n.toNat).filter fun p => decide (chanceR (pOf u d) (pOf d u) p.1 p.2 0 = 1 / 2)
def R_fair (G : Gam) : Rl := fun ds m P => ∃ u d n, ds = [coinD G u d, n] ∧ Share u ∧ Share d ∧ Flat n ∧
  (withinD n 1 30 = true → ∀ l, l ∉ m.map (·.1) → P (.rt (.ref l) ((l, .lst (pairsD (fairL u d (intD n)))) :: m))) ∧ (withinD n 1 30 = false → P (.ra G.cBadCount [("value", n)] m))
def coinC (p : Int × Int) (j k : Int) : Rat := chanceR (pOf p.1 p.2) (pOf p.2 p.1) j k 0
def fitL (j k : Int) (q : Rat) : List (Int × Int) := coinsL.filter fun p => decide (coinC p j k = q)
def R_fitting (G : Gam) : Rl := fun ds m P => ∃ j k t, ds = [j, k, t] ∧ Flat j ∧ Flat k ∧ FrOk t ∧
  (withinD j 1 40 = false → P (.ra G.cBadRun [("value", j)] m)) ∧ (withinD j 1 40 = true → withinD k 1 40 = false → P (.ra G.cBadRun [("value", k)] m)) ∧
  (withinD j 1 40 = true → withinD k 1 40 = true → isFracD t = false → P (.ra G.cBadChance [] m)) ∧
  (withinD j 1 40 = true → withinD k 1 40 = true → ∀ q, t = frD q → ∀ l, l ∉ m.map (·.1) → P (.rt (.ref l) ((l, .lst (pairsD (fitL (intD j) (intD k) q))) :: m)))
def offR (c : Rat) : Rat := if 0 ≤ c - 1 / 2 then c - 1 / 2 else -(c - 1 / 2)
def R_off_half (G : Gam) : Rl := fun ds m P => ∃ (c : Rat) (n : Nat), ds = [frD c] ∧ Sz n c ∧ n ≤ 8000 ∧ P (.rt (frD (offR c)) m)
def nearS (j k : Int) (st : Rat × List (Int × Int)) (p : Int × Int) : Rat × List (Int × Int) :=
  let a := offR (coinC p j k)
  let st2 := if a < st.1 then (a, []) else st
  (st2.1, if a = st2.1 then st2.2 ++ [p] else st2.2)
def nearL (j k : Int) : List (Int × Int) := (coinsL.foldl (nearS j k) (1, [])).2
def R_nearest (G : Gam) : Rl := fun ds m P => ∃ j k, ds = [j, k] ∧ Flat j ∧ Flat k ∧
  (withinD j 1 40 = false → P (.ra G.cBadRun [("value", j)] m)) ∧ (withinD j 1 40 = true → withinD k 1 40 = false → P (.ra G.cBadRun [("value", k)] m)) ∧
  (withinD j 1 40 = true → withinD k 1 40 = true → ∀ l, l ∉ m.map (·.1) → P (.rt (.ref l) ((l, .lst (pairsD (nearL (intD j) (intD k)))) :: m)))
def R__law_coins (G : Gam) : Rl := R_all_coins G
def R__law_off (G : Gam) : Rl := R_off_half G
def R__law_refused_k09 (G : Gam) : Rl := fun ds m P => ∃ vs kind r, ds = [.lst vs, .int kind] ∧
  ((∃ j k t, kind = 0 ∧ vs = [j, k, t] ∧ Flat j ∧ Flat k ∧ FrOk t ∧ ((withinD j 1 40 = false ∧ r = badRunD j) ∨ (withinD j 1 40 = true ∧ withinD k 1 40 = true ∧ isFracD t = false ∧ r = .str "chance"))) ∨
    (∃ j k, kind = 1 ∧ vs = [j, k] ∧ Flat j ∧ Flat k ∧ withinD j 1 40 = true ∧ withinD k 1 40 = false ∧ r = badRunD k) ∨
    (∃ n, kind = 2 ∧ vs = [n] ∧ Flat n ∧ withinD n 1 30 = false ∧ r = badCountD n)) ∧ P (.rt r m)
end RA
set_option Elab.async false
set_option linter.all false
set_option maxRecDepth 100000
set_option maxHeartbeats 1000000
/-! a dict of ints takes a key of another kind (None, a tuple): then only its length is known -/
namespace RA
open PySem PySem.Spec PyProof.Rows L2 Evl
section
variable {prog : Program} {w : World} {A : Around} {E : Value → Shared → Prop} {s : Shared}
theorem places_none {es : Array DictEntry} {hv : Int} (h : ∀ e ∈ es, e.hash ≠ hv) : placesWithHash es.size (fun i => es[i]?.map (·.hash)) hv = [] := by
  unfold placesWithHash
  rw [List.filter_eq_nil_iff]
  intro i hi
  rw [List.mem_range] at hi
  show ¬ ((Option.map (fun x => x.hash) es[i]?) == some hv) = true
  rw [Array.getElem?_eq_getElem hi]
  simp only [Option.map_some, beq_iff_eq, Option.some.injEq]
  exact h _ (Array.getElem_mem hi)
theorem find_new {d : Addr} {key : Value} {hv : Int} {es : Array DictEntry} {ep : Nat} {Q : Option Nat → Shared → Prop} (hr : s.heap.DictRaw d es ep) (hne : ∀ e ∈ es, e.hash ≠ hv) (hk : key = .none ∨ ∃ b, key = .ref b ∧ ∀ e ∈ es, ∃ i t, e.key = .int i t) (h : Q none s) : wpAny (model prog w) A (dictFind d key hv) Q E s := by
  obtain ⟨o, ho, hc, hd⟩ := hr
  have pn := places_none hne
  unfold dictFind
  try with_reducible refine wpAny_holding ?_
  refine wpAny_bind (wpAny_dictEntries ho hd ?_)
  rcases hk with rfl | ⟨b, rfl, hk⟩
  · dsimp only
    rw [pn]
    rw [if_pos (by rfl)]
    unfold dictWalkPlain
    rw [List.forIn_nil]
    exact wpAny_bind (wpAny_pure (wpAny_pure h))
  · have hany : ¬ (es.any fun e => e.key == Value.ref b && e.hash != hv) = true := by
      rw [← Array.any_toList, List.any_eq_true]
      rintro ⟨e, hin, hc⟩
      obtain ⟨i, t, hi⟩ := hk e (Array.mem_toList_iff.mp hin)
      rw [hi] at hc
      simp at hc
    dsimp only
    rw [pn]
    rw [if_neg (show ¬ ((Value.ref b :: ([] : List Nat).filterMap (fun i => es[i]?.map (·.key))).all carriedByValue) = true by simp [carriedByValue])]
    rw [if_neg hany]
    rw [if_neg (show ¬ ((List.filterMap (fun i => Option.map (fun x => x.key) es[i]?) ([] : List Nat)) == [Value.ref b]) = true from fun z => nomatch z)]
    refine wpAny_bind ?_
    unfold tableMayTell
    rw [if_pos (by rfl)]
    refine wpAny_pure ?_
    rw [if_neg (by simp)]
    rw [List.forIn_nil]
    exact wpAny_bind (wpAny_pure (wpAny_pure h))
theorem set_new {d : Addr} {key v : Value} {hv : Int} {n : Nat} {es : Array DictEntry} {ep : Nat} {Q : Unit → Shared → Prop} (hr : s.heap.DictRaw d es ep) (hz : es.size ≤ sizeLine)
    (hash : ∀ {Q' : Int → Shared → Prop}, Q' hv { s with toks := s.toks + n } → wpAny (model prog w) A (pyHash key) Q' E s)
    (hne : ∀ e ∈ es, e.hash ≠ hv) (hk : key = .none ∨ ∃ b, key = .ref b ∧ ∀ e ∈ es, ∃ i t, e.key = .int i t)
    (hQ : ∀ h', h'.DictRaw d (es.push ⟨hv, key, v⟩) (ep + 1) → Heap.SameBut d s.heap h' → Q () { s with heap := h', toks := s.toks + n }) : wpAny (model prog w) A (dictSet d key v) Q E s := by
  unfold dictSet
  try with_reducible refine wpAny_holding ?_
  refine wpAny_bind (hash ?_)
  unfold dictSetHashed
  try with_reducible refine wpAny_holding ?_
  refine wpAny_bind (find_new (s := { s with toks := s.toks + n }) hr hne hk ?_)
  obtain ⟨o, ho, hc, hd⟩ := hr
  exact wpAny_bind (wpAny_rule (wpAny_updateDictKeys (hz := hz) (s := { s with toks := s.toks + n }) ho hd (hQ _ ⟨_, Heap.get?_update_self _ ho (Obj.isFreed_of_dict (Obj.data_mapDictKeys hd _)), hc.mapDictKeys _, Obj.data_mapDictKeys hd _⟩ (Heap.SameBut.update ..))))
theorem setItem_new {d : Addr} {key v : Value} {hv : Int} {n : Nat} {es : Array DictEntry} {ep : Nat} {Q : Unit → Shared → Prop} (hr : s.heap.DictRaw d es ep) (hz : es.size ≤ sizeLine)
    (hash : ∀ {E' : Value → Shared → Prop} {Q' : Int → Shared → Prop}, Q' hv { s with toks := s.toks + n } → wpAny (model prog w) A.in1 (pyHash key) Q' E' s)
    (hne : ∀ e ∈ es, e.hash ≠ hv) (hk : key = .none ∨ ∃ b, key = .ref b ∧ ∀ e ∈ es, ∃ i t, e.key = .int i t)
    (hQ : ∀ h', h'.DictRaw d (es.push ⟨hv, key, v⟩) (ep + 1) → Heap.SameBut d s.heap h' → Q () { s with heap := h', toks := s.toks + n }) : wpAny (model prog w) A (setItem (.ref d) key v) Q E s := by
  unfold setItem
  try with_reducible refine wpAny_holding ?_
  refine wpAny_bind (wpAny_sequenceKey hr.typeIs (by decide) ?_)
  refine wpAny_bind (wpAny_callSpecial?_slot (name := Str.ofString "__setitem__") hr.typeIs slot_dict_setitem
    (wpAny_call_entry slot_dict_setitem hr.typeIs entry_dict_setitem ?_ (args_dict_setitem _ _ _)))
  show wpAny _ _ (Builtin.Dict.notOrdered "__setitem__" ⟨[.ref d, key, v], []⟩ >>= _) _ _ s
  refine wpAny_bind (wpAny_notOrdered_dict hr.typeIs ?_)
  show wpAny _ _ (dictSet d key v >>= _) _ _ s
  exact wpAny_bind (set_new hr hz hash hne hk fun h' hm' hs' => wpAny_pure ⟨.none, rfl, wpAny_pure (hQ h' hm' hs')⟩)
end
/-- a dict of n pairs -/
def OddD (a : Addr) (n : Nat) : Heap → Prop := fun h => (a == sysModules) = false ∧ ∃ es ep, h.DictRaw a es ep ∧ es.size = n
theorem small_hash : ∀ i : Nat, i < 201 → (hashInt ((i : Int) - 100)).natAbs ≤ 100 := by decide +kernel
theorem none_hash : 100 < (reduceHash 0xFCA86420).natAbs := by decide +kernel
theorem tup_hash : 100 < (reduceHash (Builtin.Tuple.tupleHashOf [hashInt 0])).natAbs := by decide +kernel
section
variable {X : Cx} {pins : List (Addr × Obj)} {σ : L2.St} {H : Hp} {s : Shared} {a : Addr} {y v : V} {u r : Value} {A : Around} {E : Value → Shared → Prop}
theorem odd_ok {P : Program} {w : World} {H' : Hp} {h' : Heap} {n : Nat} {es : Array DictEntry} {ep : Nat} (hd : (a == sysModules) = false) (hr : h'.DictRaw a es ep) (hn : es.size = n) : ObjOk P w H' h' a (.ext (OddD a n)) := by
  refine ⟨⟨hd, es, ep, hr, hn⟩, let ⟨o, ho, _⟩ := hr; ⟨o, ho⟩, ?_⟩
  rintro h1 h2 ⟨g1, es1, ep1, g2, g3⟩ k
  exact ⟨g1, es1, ep1, g2.at k, g3⟩
theorem d_setItemX {kvs : List (Key × V)} {Q : Unit → Shared → Prop} (hu : A.units + 1 < cLine) (I : Inv X pins σ H s) (e : H a = some (.dK kvs)) (hl : kvs.length < sizeLine) (hk : ∀ p ∈ kvs, ∃ i : Int, p.1 = .inl i ∧ -100 ≤ i ∧ i ≤ 100)
    (hy : y = .non ∨ ∃ b, y = .ref b ∧ H b = some (.tup [.int 0])) (ry : RelV y u) (h : ∀ s', Inv X pins σ (upd H a (.ext (OddD a (kvs.length + 1)))) s' → Q () s') :
    wpAny (model X.prog X.w) A (setItem (.ref a) u r) Q E s := by
  obtain ⟨z, hd, vs, rel, dd⟩ := dk_of I.hok e
  obtain ⟨o, es, ep, ho, hc, hdat, hkeys, hp, hnd⟩ := id dd
  obtain ⟨es', ep', hr, hsz, hat⟩ := dd.raw
  have hr0 : s.heap.DictRaw a es ep := ⟨o, ho, hc, hdat⟩
  have ee : es' = es := by
    obtain ⟨o', ho', _, hd'⟩ := hr
    rw [ho] at ho'; cases ho'
    rw [hdat] at hd'; cases hd'; rfl
  subst ee
  have hlen : es'.size = kvs.length := by rw [hsz, rel.length]
  have ent : ∀ q ∈ es', ∃ i : Int, (∃ t, q.key = .int i t) ∧ q.hash = hashInt i ∧ -100 ≤ i ∧ i ≤ 100 := by
    intro q hq
    obtain ⟨j, hj, rfl⟩ := Array.mem_iff_getElem.mp hq
    obtain ⟨k, hk1, hk2⟩ := hkeys _ (Array.getElem_mem hj)
    have hv : j < vs.length := by omega
    have h1 := (hat j hj vs[j].1 vs[j].2 (by rw [List.getElem?_eq_getElem hv])).1
    have ek : k = vs[j].1 := (mixKind X.prog X.w).inj _ _ _ hk1 h1
    have hkv : j < kvs.length := by omega
    obtain ⟨i, hi, i1, i2⟩ := hk kvs[j] (List.getElem_mem hkv)
    have key : kvs[j].1 = vs[j].1 := by
      have : ∀ {l : List (Key × V)} {m : List (Key × Value)}, KV l m → ∀ (j : Nat) (h1 : j < l.length) (h2 : j < m.length), l[j].1 = m[j].1 := by
        intro l m r
        unfold KV at r
        induction r with
        | nil => intro j h1 _; exact absurd h1 (by simp)
        | cons hh _ ih =>
          intro j h1 h2
          cases j with
          | zero => exact hh.1
          | succ j => exact ih j (by simpa using h1) (by simpa using h2)
      exact this rel j hkv hv
    rw [← key, hi] at ek
    subst ek
    rcases keyIs_shape (k := Sum.inl i) (v := es'[j].key) hk1 with ⟨i', t, e1, e2⟩ | ⟨x, t, e1, e2⟩
    · have ei : i = i' := Sum.inl.inj e1
      exact ⟨i, ⟨t, by rw [ei]; exact e2⟩, hk2, i1, i2⟩
    · exact nomatch e1
  have hne : ∀ {hv : Int}, 100 < hv.natAbs → ∀ q ∈ es', q.hash ≠ hv := by
    intro hv hb q hq z
    obtain ⟨i, _, hi, i1, i2⟩ := ent q hq
    have := small_hash (i + 100).toNat (by omega)
    rw [show (((i + 100).toNat : Nat) : Int) - 100 = i by omega, ← hi, z] at this
    omega
  have fin : ∀ {hv : Int} {n : Nat} (h' : Heap), h'.DictRaw a (es'.push ⟨hv, u, r⟩) (ep + 1) → Heap.SameBut a s.heap h' → Q () { s with heap := h', toks := s.toks + n } := by
    intro hv n h' hm hs
    have he : ∃ q, h'.get? a = some q := let ⟨q, hq, _⟩ := hm; ⟨q, hq⟩
    exact h _ (d_write I (by rw [e]; exact True.intro) hs he (odd_ok hd hm (by rw [Array.size_push, hlen])))
  rcases hy with rfl | ⟨b, rfl, hb⟩
  · cases (show u = Value.none from ry)
    exact setItem_new (n := 1) (hv := reduceHash 0xFCA86420) hr0 (by omega) (fun q => pyHash_leaf (k := Leaf.none) (v := .none) rfl q) (hne none_hash) (.inl rfl) fin
  · cases (show u = Value.ref b from ry)
    have hkey := key_of (ks := [.inl 0]) I.hok hb
    exact setItem_new (n := 2) (hv := reduceHash (Builtin.Tuple.tupleHashOf [hashInt 0])) hr0 (by omega) (fun q => wpAny_pyHash_tuple (knd := mixKind X.prog X.w) (by show A.in1.units < cLine; exact hu) hkey q) (hne tup_hash) (.inr ⟨b, rfl, fun q hq => let ⟨i, ⟨t, e⟩, _⟩ := ent q hq; ⟨i, t, e⟩⟩) fin
end
/-- d[y] = v, y of any kind -/
def sDPutX (td ty tv : TE) : TS := fun D σ H => tv σ H fun v H1 => td σ H1 fun x H2 => ty σ H2 fun y H3 => ∃ a, x = .ref a ∧ ((∃ H4, DPut H3 a y v H4 ∧ D.nx σ H4) ∨
  ∃ kvs, H3 a = some (.dK kvs) ∧ kvs.length < sizeLine ∧ (∀ p ∈ kvs, ∃ i : Int, p.1 = .inl i ∧ -100 ≤ i ∧ i ≤ 100) ∧ (y = .non ∨ ∃ b, y = .ref b ∧ H3 b = some (.tup [.int 0])) ∧ D.nx σ (upd H3 a (.ext (OddD a (kvs.length + 1)))))
theorem ps_dputX {X : Cx} {o i value : Expr} {pos pos' : Pos} {td ty tv : TE} (hu : X.A.units + 1 < cLine) (ho : PE X o td) (hi : PE X i ty) (hv : PE X value tv) (hs : swapsWith value (some (.Subscript o i pos')) pos.line X.env = pure false) :
    PS X (.Assign [.Subscript o i pos'] value pos) (sDPutX td ty tv) := by
  refine ⟨fun pins s σ H D I h => ?_⟩
  refine wpAny_Assign_Subscript (thn (hv.run pins s σ H _ I h) fun r s1 ⟨v, H1, I1, rv, q1⟩ => thn (ho.run pins s1 σ H1 _ I1 q1) fun u s2 ⟨x, H2, I2, rx, q2⟩ => thn (hi.run pins s2 σ H2 _ I2 q2) fun iv s3 ⟨y, H3, I3, ry, a, ex, g⟩ => ?_) hs
  subst ex
  obtain rfl : u = Value.ref a := rx
  rcases g with ⟨H4, g, q3⟩ | ⟨kvs, e, hl, hk, hy, q3⟩
  · exact d_setItem hu I3 g ry rv fun s4 I4 => ⟨σ, H4, I4, q3⟩
  · exact d_setItemX hu I3 e hl hk hy ry fun s4 I4 => ⟨σ, _, I4, q3⟩
/-! len, isinstance of such a dict -/
section
variable {prog : Program} {w : World} {A : Around} {E : Value → Shared → Prop} {s : Shared}
theorem len_body_raw {d : Addr} {es : Array DictEntry} {ep : Nat} {Q : Value → Shared → Prop} (hd : (d == sysModules) = false) (hm : s.heap.DictRaw d es ep) (hfit : (es.size : Int) < 2 ^ 63)
    (h : Q (.int es.size (s.toks + 1)) { s with toks := s.toks + 1 + 1 }) : wpAny (model prog w) A (Builtin.«len» ⟨[.ref d], []⟩) (fun fin s' => ∃ r, fin = .done (.ret r) ∧ Q r s') E s := by
  unfold Builtin.«len»
  refine wpAny_bind (m := oneArg "len" _) (wpAny_pure ?_)
  refine wpAny_bind (m := callSpecial? (.ref d) (Str.ofString "__len__")) (wpAny_callSpecial?_slot (name := Str.ofString "__len__") hm.typeIs F.slot_dict_len
    (call_meetsIn F.slot_dict_len hm.typeIs F.entry_dict_len (F.args_dict_len_1 _) (meets_dict_len_raw d hd) ⟨es, ep, hm, ?_⟩))
  show wpAny _ _ _ _ _ { s with toks := s.toks + 1 }
  refine wpAny_bind (wpAny_holding (wpAny_pure ?_))
  refine wpAny_bind (wpAny_letGo ?_)
  show wpAny _ _ (if ((es.size : Nat) : Int) < 0 then _ else _) _ _ _
  rw [if_neg (by omega)]
  show wpAny _ _ (if ((es.size : Nat) : Int) ≥ 2 ^ 63 then _ else _) _ _ _
  rw [if_neg (by omega)]
  exact wpAny_bind (wpAny_mkInt (wpAny_pure ⟨_, rfl, h⟩))
theorem call_len_of_raw {d : Addr} {es : Array DictEntry} {ep : Nat} {Q : Value → Shared → Prop} (hd : (d == sysModules) = false) (hm : s.heap.DictRaw d es ep) (hfit : (es.size : Int) < 2 ^ 63)
    (h : Q (.int es.size (s.toks + 1)) { s with toks := s.toks + 1 + 1 }) : wpAny (model prog w) A (call (.builtin "len") [.ref d]) Q E s :=
  Calls.call_function_entry kind_len plain_len entry_len (args_len1 _) (len_body_raw hd hm hfit h)
end
def rLenDict : List V → Hp → VK → Prop := fun xs H Q => ∃ a, xs = [.ref a] ∧ ((∃ kvs, H a = some (.dK kvs) ∧ Q (.int kvs.length) H) ∨ ∃ n : Nat, n < 1000 ∧ H a = some (.ext (OddD a n)) ∧ Q (.int n) H)
theorem call_lenDX {X : Cx} : CallR X (.builtin "len") rLenDict := by
  intro pins s σ H xs us Q I r h
  obtain ⟨a, rfl, h⟩ := h
  rcases h with ⟨kvs, ha, q⟩ | ⟨n, hn, ha, q⟩
  · exact call_lenD pins s σ H [.ref a] us Q I r ⟨a, kvs, rfl, ha, q⟩
  · obtain ⟨u, rfl, ru⟩ := vals1 r
    cases ru
    obtain ⟨⟨hd, es, ep, hr, hs⟩, _⟩ := (show ObjOk X.prog X.w H s.heap a (.ext (OddD a n)) from I.hok a _ ha)
    subst hs
    exact call_len_of_raw hd hr (by omega) ⟨.int es.size, H, I.tok _, ⟨_, rfl⟩, q⟩
def rIsiX (K : PySem.W.Frag) : List V → Hp → VK → Prop := fun xs H Q => rIsi K xs H Q ∨ ∃ a n, xs = [.ref a, .ty "dict"] ∧ H a = some (.ext (OddD a n)) ∧ PySem.W.kitOne K (.type "dict") (.type "dict") = some true ∧ Q (.bl true) H
theorem call_isiX {X : Cx} : CallR X (.builtin "isinstance") (rIsiX X.K) := by
  intro pins s σ H xs us Q I r h
  rcases h with h | ⟨a, n, rfl, ha, hk, q⟩
  · exact call_isi pins s σ H xs us Q I r h
  · obtain ⟨u1, u2, rfl, r1, r2⟩ := vals2 r
    cases (show u1 = Value.ref a from r1)
    cases (show u2 = Value.type "dict" from r2)
    obtain ⟨⟨hd, es, ep, ⟨o, ho, hc, _⟩, hs⟩, _⟩ := (show ObjOk X.prog X.w H s.heap a (.ext (OddD a n)) from I.hok a _ ha)
    exact PySem.W.kia_one PySem.W.kitx_dict I.kIn ⟨o, ho, hc.1⟩ hk (fun z => nomatch z) fun tk => ⟨.bl true, H, I.tok tk, rfl, q⟩
/-- dict(d) -/
def rDictC : List V → Hp → VK → Prop := fun xs H Q => ∃ (a : Addr) (kvs : List (Key × V)), xs = [.ref a] ∧ Rd H a (.dK kvs) ∧ ∀ p, H p = none → Q (.ref p) (upd H p (.dK kvs))
/-! by data -/
section
variable {K : PySem.W.Frag} {G : Hp} {ts : TSt} {m : Mem} {d : D} {E : XK} {P : D → Mem → Prop} {PO : Oc → Prop} {ta tb te tv : TE} {ds : List D}
/-- x[k] = v, as before -/
theorem s_dputX {i : Nat} {a : Addr} {kvs : List (Key × D)} {k : Key} {tv : TE} (hv : EvD K tv ts m d) (ha : EvD K ta ts m (.ref a)) (hb : EvD K tb ts m (kD k)) (hk : m[i]? = some (a, .dic kvs)) (hl : kvs.length < 100000)
    (p : PO (.nx ts (m.set i (a, .dic (putKD kvs k d))))) : ExS K E (sDPutX ta tb tv) ts m PO := fun σ H De M S kk =>
  hv σ H M S _ fun v H1 d' m' ⟨e1, e2⟩ M1 x1 r1 => by
    subst e1; subst e2
    refine ha σ H1 M1 (S.mono x1) _ fun u H2 d' m' ⟨e1, e2⟩ M2 x2 r2 => ?_
    subst e1; subst e2
    refine hb σ H2 M2 (S.mono (x1.trans x2)) _ fun w H3 d' m' ⟨e1, e2⟩ M3 x3 r3 => ?_
    subst e1; subst e2
    obtain ⟨ws, hs, hd⟩ := M3.cell hk
    have hd : KvR K _ ws kvs := hd
    refine ⟨a, r2.ref_of, .inl ⟨_, by rw [den_key r3]; exact DPut.k hs (sz_lt (by rw [hd.len]; exact hl)), ?_⟩⟩
    exact kk _ p σ _ (M3.write hk ⟨_, upd_same, hd.put k (r1.mono (x2.trans x3))⟩) (x1.trans (x2.trans (x3.trans (ex_write hk)))) (S.mono (x1.trans (x2.trans (x3.trans (ex_write hk)))))
/-- .. with a key of another kind -/
theorem s_dputO {i : Nat} {a : Addr} {kvs : List (Key × D)} {dk : D} {tv : TE} (hv : EvD K tv ts m d) (ha : EvD K ta ts m (.ref a)) (hb : EvD K tb ts m dk) (hdk : dk = .non ∨ dk = .tk [.inl 0]) (hk : m[i]? = some (a, .dic kvs)) (hl : kvs.length < 100000)
    (hi : ∀ p ∈ kvs, ∃ i : Int, p.1 = .inl i ∧ -100 ≤ i ∧ i ≤ 100) (p : PO (.nx ts (m.set i (a, .xt (OddD a (kvs.length + 1)))))) : ExS K E (sDPutX ta tb tv) ts m PO := fun σ H De M S kk =>
  hv σ H M S _ fun v H1 d' m' ⟨e1, e2⟩ M1 x1 r1 => by
    subst e1; subst e2
    refine ha σ H1 M1 (S.mono x1) _ fun u H2 d' m' ⟨e1, e2⟩ M2 x2 r2 => ?_
    subst e1; subst e2
    refine hb σ H2 M2 (S.mono (x1.trans x2)) _ fun w H3 d' m' ⟨e1, e2⟩ M3 x3 r3 => ?_
    subst e1; subst e2
    obtain ⟨ws, hs, hd⟩ := M3.cell hk
    have hd : KvR K _ ws kvs := hd
    have hi' : ∀ p ∈ ws, ∃ i : Int, p.1 = .inl i ∧ -100 ≤ i ∧ i ≤ 100 := fun p hp => by
      obtain ⟨j, hj⟩ := List.getElem?_of_mem hp
      have hlt := (List.getElem?_eq_some_iff.mp hj).1
      have hlt2 : j < kvs.length := by rw [← hd.len]; exact hlt
      obtain ⟨i, h1, h2⟩ := hi kvs[j] (List.getElem_mem hlt2)
      obtain ⟨v', hv', _⟩ := hd.get (i := j) (k := kvs[j].1) (d := kvs[j].2) (List.getElem?_eq_getElem hlt2)
      rw [hj] at hv'
      cases hv'
      exact ⟨i, h1, h2⟩
    have hy : w = .non ∨ ∃ b, w = .ref b ∧ H3 b = some (.tup [.int 0]) := by
      rcases hdk with e | e
      · subst e; exact .inl r3.non_of
      · subst e
        obtain ⟨b, rfl, hb⟩ := r3.tk_of
        exact .inr ⟨b, rfl, vis_ex _ _ hb⟩
    refine ⟨a, r2.ref_of, .inr ⟨ws, hs, sz_lt (by rw [hd.len]; exact hl), hi', hy, ?_⟩⟩
    rw [hd.len]
    have W := M3.write hk (d' := .xt (OddD a (kvs.length + 1))) (o := .ext (OddD a (kvs.length + 1))) upd_same
    have x4 := ex_write (m := m') (H := H3) (k := i) (l := a) (d := .dic kvs) (d' := .xt (OddD a (kvs.length + 1))) (o := .ext (OddD a (kvs.length + 1))) hk
    exact kk _ p σ _ W (x1.trans (x2.trans (x3.trans x4))) (S.mono (x1.trans (x2.trans (x3.trans x4))))
theorem cb_lenDic {k : Nat} {a : Addr} {kvs : List (Key × D)} (hk : m[k]? = some (a, .dic kvs)) : CbD K rLenDict [.ref a] m (.int kvs.length) := fun vs H M r Q q => by
  obtain ⟨v, rfl, r'⟩ := r.one
  obtain ⟨ws, hs, hd⟩ := M.cell hk
  have hd : KvR K _ ws kvs := hd
  exact ⟨a, by rw [r'.ref_of], .inl ⟨ws, hs, by rw [hd.len]; exact q _ H M (Ex.refl _) (.int _)⟩⟩
theorem cb_lenOdd {k : Nat} {a : Addr} {n : Nat} (hn : n < 1000) (hk : m[k]? = some (a, .xt (OddD a n))) : CbD K rLenDict [.ref a] m (.int n) := fun vs H M r Q q => by
  obtain ⟨v, rfl, r'⟩ := r.one
  exact ⟨a, by rw [r'.ref_of], .inr ⟨n, hn, M.cell hk, q _ H M (Ex.refl _) (.int _)⟩⟩
theorem cb_isiX {T U : String} {b : Bool} (h : tyD d = some T) (hk : kitB T U = some b) : CbD K (rIsiX K) [d, .ty U] m (.bl b) := fun vs H M r Q q => .inl (cb_isi h hk vs H M r Q q)
theorem cb_isiDic {k : Nat} {a : Addr} {kvs : List (Key × D)} (hk : m[k]? = some (a, .dic kvs)) : CbD K (rIsiX K) [.ref a, .ty "dict"] m (.bl true) := fun vs H M r Q q => .inl (by
  obtain ⟨v, w, rfl, r1, r2⟩ := r.two
  rw [r2.ty_of, r1.ref_of]
  obtain ⟨ws, hs, hd⟩ := M.cell hk
  exact ⟨.ref a, .ty "dict", .type "dict", .type "dict", true, rfl, .ty _, .base (.dK hs), kit_ty (by decide +kernel), q _ H M (Ex.refl _) (.bl true)⟩)
theorem cb_isiOdd {k : Nat} {a : Addr} {n : Nat} (hk : m[k]? = some (a, .xt (OddD a n))) : CbD K (rIsiX K) [.ref a, .ty "dict"] m (.bl true) := fun vs H M r Q q => .inr (by
  obtain ⟨v, w, rfl, r1, r2⟩ := r.two
  rw [r2.ty_of, r1.ref_of]
  exact ⟨a, n, rfl, M.cell hk, kit_ty (by decide +kernel), q _ H M (Ex.refl _) (.bl true)⟩)
end
end RA
set_option Elab.async false
set_option linter.all false
set_option maxRecDepth 100000
set_option maxHeartbeats 4000000
/-! What the defs of k06 do, by data. -/
namespace RA
open PySem PySem.Spec PyProof.Rows L2 Evl
/-- a dict of all states' chances -/
structure Known (kn : List (Key × D)) : Prop where
  nd : (kn.map (·.1)).Nodup
  key : ∀ p ∈ kn, ∃ i : Int, p.1 = .inl i ∧ -100 ≤ i ∧ i ≤ 98
  val : ∀ p ∈ kn, ∃ q : Rat, p.2 = frD q ∧ Sz 2300 q
  len : 0 < kn.length ∧ kn.length ≤ 100
inductive ShowsIs (kn kvs : List (Key × D)) : Bool → Prop
  | len : kvs.length ≠ kn.length → ShowsIs kn kvs false
  | good : kvs.length = kn.length → (∀ p ∈ kn, valD kvs p.1 = some p.2) → (∀ p ∈ kvs, ∃ i : Int, p.1 = .inl i) → ShowsIs kn kvs true
  | bad (s : Key) (d0 d : D) : kvs.length = kn.length → (s, d0) ∈ kn → (∀ p ∈ kn, p.1 ≠ s → valD kvs p.1 = some p.2) → valD kvs s = some d → FrOk d → (isFracD d = false ∨ ∃ q q0, d = frD q ∧ d0 = frD q0 ∧ q ≠ q0) → ShowsIs kn kvs false
/-- what shows asks of its value -/
def ShowV (kn : List (Key × D)) (m : Mem) (v : D) (b : Bool) : Prop :=
  (Flat v ∧ b = false) ∨ (∃ (i : Nat) (a : Addr) (kvs : List (Key × D)), v = .ref a ∧ m[i]? = some (a, D.dic kvs) ∧ kvs.length ≤ 1000 ∧ ShowsIs kn kvs b) ∨ ∃ (i : Nat) (a : Addr) (n : Nat), v = .ref a ∧ m[i]? = some (a, D.xt (OddD a n)) ∧ n < 1000 ∧ n ≠ kn.length ∧ b = false
def R_shows (G : Gam) : Rl := fun ds m P => ∃ u d j k v, ds = [coinD G u d, j, k, v] ∧ Share u ∧ Share d ∧ Flat j ∧ Flat k ∧
  (withinD j 1 40 = false → P (.ra G.cBadRun [("value", j)] m)) ∧ (withinD j 1 40 = true → withinD k 1 40 = false → P (.ra G.cBadRun [("value", k)] m)) ∧
  (withinD j 1 40 = true → withinD k 1 40 = true → ∃ b, ShowV (chancesKv u d (intD j) (intD k)) m v b ∧ P (.rt (.bl b) m))
/-- a dict bent: nothing that shows says True to -/
def BentC (kn : List (Key × D)) (f : Addr) (c : D) : Prop := (∃ kvs, c = .dic kvs ∧ kvs.length ≤ 1000 ∧ ShowsIs kn kvs false) ∨ ∃ n, c = .xt (OddD f n) ∧ n < 1000 ∧ n ≠ kn.length
def R__law_bent (G : Gam) : Rl := fun ds m P => ∃ (l x : Addr) (r : D) (kn : List (Key × D)) (i1 i2 : Nat), ds = [.ref l, .ref x] ∧ m[i1]? = some (l, r) ∧ RowOk r ∧ m[i2]? = some (x, .dic kn) ∧ i1 ≠ i2 ∧ Known kn ∧
  ∀ f r' c, RowOk r' → BentC kn f c → P (.rt (.ref f) ((f, c) :: m.set i1 (l, r')))
def R__law_refused_k06 (G : Gam) : Rl := fun ds m P => ∃ u d j k kind b, ds = [coinD G u d, j, k, .int kind] ∧ Share u ∧ Share d ∧ Flat j ∧ Flat k ∧ 0 ≤ kind ∧ kind < 2 ∧ ((withinD j 1 40 = false ∧ b = j) ∨ (withinD j 1 40 = true ∧ withinD k 1 40 = false ∧ b = k)) ∧ P (.rt (.lst [.str "run", b]) m)
end RA
set_option Elab.async false
set_option linter.all false
set_option maxRecDepth 100000
set_option maxHeartbeats 4000000
/-! The defs' readings (printed by gen.py). -/
namespace RA
open PySem PySem.Spec PyProof.Rows L2 Evl
/-- shows: 0 coin, 1 j, 2 k, 3 value, 4 found, 5 state, 6 one -/
def n_shows : List Str := ["coin", "j", "k", "value", "found", "state", "one"]
def t_shows (G : Gam) (E : XK) : TS :=
  (tSeq (tAsg (tCall (SpD G.K (R_chances G)) [] E (tCons (tVar 0) (tCons (tVar 1) (tCons (tVar 2) tNil)))) (gName 4))
    (tSeq (tIfS (tOr (tNot (tB (tCB (rIsiX G.K) (tCons (tVar 3) (tCons (tC (.ty "dict")) tNil))))) (tTest (tOp rNe (tCB rLenDict (tCons (tVar 3) tNil)) (tCB rLenDict (tCons (tVar 4) tNil))))) (tRet (tC (.bl false))) tNext)
    (tSeq (tLock (tFor (iItems (tVar 4)) (gTup G.K 2 (gCons (gName 5) (gCons (gName 6) gNil))) (tIfS (tOr (tB (tDNotIn (tVar 5) (tVar 3))) (tOr (tNot (tB (tCall (SpD G.K (R_is_fraction G)) [] E (tCons (tDGet (tVar 3) (tVar 5)) tNil)))) (tTest (tOp (rNeD G.K) (tDGet (tVar 3) (tVar 5)) (tVar 6))))) (tRet (tC (.bl false))) tNext)))
    (tRet (tCB (rAll G.K) (tCons (tLockE (tLc (iKeys (tVar 3)) (gName 6) tYes (tCall (SpD G.K (R_is_whole G)) [] E0 (tCons (tVar 6) tNil)) [6])) tNil))))))
/-- _law_bent: 0 _law_row, 1 _law_known, 2 _law_state, 3 _law_kind, 4 _law_found, 5 _law_one -/
def n__law_bent : List Str := ["_law_row", "_law_known", "_law_state", "_law_kind", "_law_found", "_law_one"]
def t__law_bent (G : Gam) (E : XK) : TS :=
  (tSeq (tPar 2 3 (tCons (tOp (rIxL G.K) (tCB rListD (tCons (tVar 1) tNil)) (tCall (SpD G.K (R__law_taken G)) [] E (tCons (tVar 0) (tCons (tCB rLenDict (tCons (tVar 1) tNil)) tNil)))) (tCons (tCall (SpD G.K (R__law_taken G)) [] E (tCons (tVar 0) (tCons (tC (.int 5)) tNil))) tNil)))
    (tSeq (tPar 4 5 (tCons (tCB rDictC (tCons (tVar 1) tNil)) (tCons (tDGet (tVar 1) (tVar 2)) tNil)))
    (tSeq (tIfS (tTest (tOp rEq (tVar 3) (tC (.int 0)))) (sDPutX (tVar 4) (tVar 2) (tCall (SpD G.K (R__law_sum G)) [] E (tCons (tVar 5) (tCons (tTup (tCons (tC (.int 1)) (tCons (tC (.int 7)) tNil))) tNil)))) (tIfS (tTest (tOp rEq (tVar 3) (tC (.int 1)))) (sDPutX (tVar 4) (tVar 2) (tTup (tCons (tOp (rI CMulW fun i j => .int (i * j)) (tC (.int 2)) (tOp (rIxT G.K) (tVar 5) (tC (.int 0)))) (tCons (tOp (rI CMulW fun i j => .int (i * j)) (tC (.int 2)) (tOp (rIxT G.K) (tVar 5) (tC (.int 1)))) tNil)))) (tIfS (tTest (tOp rEq (tVar 3) (tC (.int 2)))) (sDPutX (tVar 4) (tVar 2) (tOp (rIxL G.K) (tLst (tCons (tC .non) (tCons (tC (.int 1)) (tCons (tCB (rListOf G.K) (tCons (tVar 5) tNil)) (tCons (tC (.str "1")) (tCons (tTup (tCons (tC (.int 1)) tNil)) (tCons (tOp (rCatA G.K) (tVar 5) (tTup (tCons (tC (.int 1)) tNil))) tNil))))))) (tCall (SpD G.K (R__law_taken G)) [] E (tCons (tVar 0) (tCons (tC (.int 6)) tNil))))) (tIfS (tTest (tOp rEq (tVar 3) (tC (.int 3)))) (tDrop (tDPop1 (tVar 4) (tVar 2))) (sDPutX (tVar 4) (tOp (rIxL G.K) (tLst (tCons (tC (.str "0")) (tCons (tC (.int 99)) (tCons (tC .non) (tCons (tTup (tCons (tC (.int 0)) tNil)) tNil))))) (tCall (SpD G.K (R__law_taken G)) [] E (tCons (tVar 0) (tCons (tC (.int 4)) tNil)))) (tVar 5))))))
    (tRet (tVar 4)))))
/-- _law_refused: 0 _law_coin, 1 _law_j, 2 _law_k, 3 _law_kind, 4 _law_told, 5 e -/
def tb0__law_refused_k06 (G : Gam) (E2 : XK) : TS :=
  (tIfS (tTest (tOp rEq (tVar 3) (tC (.int 0)))) (tDrop (tCall (SpD G.K (R_shows G)) [] E2 (tCons (tVar 0) (tCons (tVar 1) (tCons (tVar 2) (tCons tDNewK tNil)))))) (tDrop (tCall (SpD G.K (R_chances G)) [] E2 (tCons (tVar 0) (tCons (tVar 1) (tCons (tVar 2) tNil))))))
def n__law_refused_k06 : List Str := ["_law_coin", "_law_j", "_law_k", "_law_kind", "_law_told", "e"]
def t__law_refused_k06 (G : Gam) (E : XK) : TS :=
  (tSeq (tAsg (tC .non) (gName 4))
    (tSeq (tTry G.K (fun cls d _ H => E cls d H) [((Value.ref G.cBadRun), (some 5), fun a cls d => (tAsg (tLst (tCons (tC (.str "run")) (tCons (tXf a cls d G.cBadRun "value" (tVar 5)) tNil))) (gName 4)))] (fun W => tb0__law_refused_k06 G (EW 6 W)))
    (tRet (tVar 4))))
/-- law: 0 _law_script, 1 _law_row, 2 _law_d, 3 _law_runs_here, 4 _law_coin, 5 _law_j, 6 _law_k, 7 _law_known, 8 _law_turned, 9 _law_state, 10 _law_odd, 11 _law_bad, 12 _law_kind -/
def n_law_k06 : List Str := ["_law_script", "_law_row", "_law_d", "_law_runs_here", "_law_coin", "_law_j", "_law_k", "_law_known", "_law_turned", "_law_state", "_law_odd", "_law_bad", "_law_kind"]
def t_law_k06 (G : Gam) (E : XK) : TS :=
  (tSeq (tAsg (tLst (tCons (tVar 0) (tCons (tC (.int 0)) (tCons (tC (.int 226)) (tCons (tC (.int 0)) tNil))))) (gName 1))
    (tSeq (tPar 2 3 (tCons (tCall (SpD G.K (R__law_drawn G)) [] E (tCons (tVar 1) tNil)) (tCons (tCall (SpD G.K (R__law_runs G)) [] E (tCons (tVar 1) (tCons (tC (.int 12)) tNil))) tNil)))
    (tSeq (tPar3 4 5 6 (tCons (tMake G.cCoin (SpD G.K (R_Coin_init G)) [] E (tCons (tOp (rIxT G.K) (tVar 2) (tC (.int 0))) (tCons (tOp (rIxT G.K) (tVar 2) (tC (.int 1))) tNil))) (tCons (tOp (rIxL G.K) (tVar 3) (tC (.int 0))) (tCons (tOp (rIxL G.K) (tVar 3) (tC (.int 1))) tNil))))
    (tSeq (tAsg (tCall (SpD G.K (R_chances G)) [] E (tCons (tVar 4) (tCons (tVar 5) (tCons (tVar 6) tNil)))) (gName 7))
    (tSeq (tAsg (tCB (rDictP G.K) (tCons (tLc (iList G.K (tRevL G.K (tCB rListD (tCons (tVar 7) tNil)))) (gName 9) tYes (tTup (tCons (tVar 9) (tCons (tDGet (tVar 7) (tVar 9)) tNil))) [9]) tNil)) (gName 8))
    (tSeq (tIfS (tOr (tNot (tB (tCall (SpD G.K (R_shows G)) [] E (tCons (tVar 4) (tCons (tVar 5) (tCons (tVar 6) (tCons (tVar 7) tNil))))))) (tNot (tB (tCall (SpD G.K (R_shows G)) [] E (tCons (tVar 4) (tCons (tVar 5) (tCons (tVar 6) (tCons (tVar 8) tNil)))))))) (tRet (tC (.bl false))) tNext)
    (tSeq (tIfS (tOr (tB (tCall (SpD G.K (R_shows G)) [] E (tCons (tVar 4) (tCons (tVar 5) (tCons (tVar 6) (tCons (tCall (SpD G.K (R__law_bent G)) [] E (tCons (tVar 1) (tCons (tVar 7) tNil))) tNil)))))) (tB (tCall (SpD G.K (R_shows G)) [] E (tCons (tVar 4) (tCons (tVar 5) (tCons (tVar 6) (tCons (tCall (SpD G.K (R__law_bent G)) [] E (tCons (tVar 1) (tCons (tVar 7) tNil))) tNil))))))) (tRet (tC (.bl false))) tNext)
    (tSeq (tAsg (tLst (tCons (tC .non) (tCons (LiI.tListItems (tVar 7)) (tCons (tTup tNil) (tCons tDNewK (tCons (tC (.str "chances")) (tCons (tC (.int 5)) tNil))))))) (gName 10))
    (tSeq (tIfS (tB (tCall (SpD G.K (R_shows G)) [] E (tCons (tVar 4) (tCons (tVar 5) (tCons (tVar 6) (tCons (tOp (rIxL G.K) (tVar 10) (tCall (SpD G.K (R__law_taken G)) [] E (tCons (tVar 1) (tCons (tCB (rLen G.K) (tCons (tVar 10) tNil)) tNil)))) tNil)))))) (tRet (tC (.bl false))) tNext)
    (tSeq (tPar 11 12 (tCons (tOp (rIxL G.K) (tLst (tCons (tC (.int 0)) (tCons (tC (.int 41)) (tCons (tC .non) (tCons (tC (.bl true)) (tCons (tC (.str "1")) tNil)))))) (tCall (SpD G.K (R__law_taken G)) [] E (tCons (tVar 1) (tCons (tC (.int 5)) tNil)))) (tCons (tCall (SpD G.K (R__law_taken G)) [] E (tCons (tVar 1) (tCons (tC (.int 2)) tNil))) tNil)))
    (tRet (tAndV (tOp (rEqD G.K) (tCall (SpD G.K (R__law_refused_k06 G)) [] E (tCons (tVar 4) (tCons (tVar 11) (tCons (tC (.int 0)) (tCons (tVar 12) tNil))))) (tLst (tCons (tC (.str "run")) (tCons (tVar 11) tNil)))) (tOp (rEqD G.K) (tCall (SpD G.K (R__law_refused_k06 G)) [] E (tCons (tVar 4) (tCons (tVar 5) (tCons (tVar 11) (tCons (tVar 12) tNil))))) (tLst (tCons (tC (.str "run")) (tCons (tVar 11) tNil))))))))))))))))
end RA
set_option Elab.async false
set_option linter.all false
set_option maxRecDepth 100000
set_option maxHeartbeats 4000000
/-! The defs' readings (printed by gen.py). -/
namespace RA
open PySem PySem.Spec PyProof.Rows L2 Evl
/-- _law_until: 0 _law_share, 1 _law_many, 2 _law_found, 3 _law_turn -/
def n__law_until : List Str := ["_law_share", "_law_many", "_law_found", "_law_turn"]
def t__law_until (G : Gam) (E : XK) : TS :=
  (tSeq (tAsg (tTup (tCons (tC (.int 0)) (tCons (tC (.int 1)) tNil))) (gName 2))
    (tSeq (tFor (iRng1 (tCons (tVar 1) tNil)) (gName 3) (tAsg (tCall (SpD G.K (R__law_times G)) [] E (tCons (tCall (SpD G.K (R__law_sum G)) [] E (tCons (tVar 2) (tCons (tTup (tCons (tC (.int 1)) (tCons (tC (.int 1)) tNil))) tNil))) (tCons (tTup (tCons (tOp (rIxT G.K) (tVar 0) (tC (.int 1))) (tCons (tOp (rIxT G.K) (tVar 0) (tC (.int 0))) tNil))) tNil))) (gName 2)))
    (tRet (tVar 2))))
/-- _law_refused: 0 _law_coin, 1 _law_j, 2 _law_k, 3 _law_told, 4 e -/
def tb0__law_refused_k05 (G : Gam) (E2 : XK) : TS :=
  (tIfS (tTest (tOp rEq (tVar 2) (tC (.int 0)))) (tDrop (tCall (SpD G.K (R_mean_heads G)) [] E2 (tCons (tVar 0) (tCons (tVar 1) tNil)))) (tDrop (tCall (SpD G.K (R_mean_both G)) [] E2 (tCons (tVar 0) (tCons (tVar 1) (tCons (tVar 2) tNil))))))
def n__law_refused_k05 : List Str := ["_law_coin", "_law_j", "_law_k", "_law_told", "e"]
def t__law_refused_k05 (G : Gam) (E : XK) : TS :=
  (tSeq (tAsg (tC .non) (gName 3))
    (tSeq (tTry G.K (fun cls d _ H => E cls d H) [((Value.ref G.cBadRun), (some 4), fun a cls d => (tAsg (tLst (tCons (tC (.str "run")) (tCons (tXf a cls d G.cBadRun "value" (tVar 4)) tNil))) (gName 3)))] (fun W => tb0__law_refused_k05 G (EW 5 W)))
    (tRet (tVar 3))))
/-- law: 0 _law_script, 1 _law_row, 2 _law_d, 3 _law_runs_here, 4 _law_coin, 5 _law_shares_here, 6 _law_j, 7 _law_k, 8 _law_heads, 9 _law_tails, 10 _law_first, 11 _law_later, 12 _law_bad -/
def n_law_k05 : List Str := ["_law_script", "_law_row", "_law_d", "_law_runs_here", "_law_coin", "_law_shares_here", "_law_j", "_law_k", "_law_heads", "_law_tails", "_law_first", "_law_later", "_law_bad"]
def t_law_k05 (G : Gam) (E : XK) : TS :=
  (tSeq (tAsg (tLst (tCons (tVar 0) (tCons (tC (.int 0)) (tCons (tC (.int 225)) (tCons (tC (.int 0)) tNil))))) (gName 1))
    (tSeq (tPar 2 3 (tCons (tCall (SpD G.K (R__law_drawn G)) [] E (tCons (tVar 1) tNil)) (tCons (tCall (SpD G.K (R__law_runs G)) [] E (tCons (tVar 1) (tCons (tC (.int 40)) tNil))) tNil)))
    (tSeq (tPar 4 5 (tCons (tMake G.cCoin (SpD G.K (R_Coin_init G)) [] E (tCons (tOp (rIxT G.K) (tVar 2) (tC (.int 0))) (tCons (tOp (rIxT G.K) (tVar 2) (tC (.int 1))) tNil))) (tCons (tCall (SpD G.K (R__law_shares G)) [] E (tCons (tVar 2) tNil)) tNil)))
    (tSeq (tAsg (tVar 3) (gLst G.K 2 (gCons (gName 6) (gCons (gName 7) gNil))))
    (tSeq (tPar 8 9 (tCons (tCall (SpD G.K (R__law_until G)) [] E (tCons (tOp (rIxL G.K) (tVar 5) (tC (.int 0))) (tCons (tVar 6) tNil))) (tCons (tCall (SpD G.K (R__law_until G)) [] E (tCons (tOp (rIxL G.K) (tVar 5) (tC (.int 1))) (tCons (tVar 7) tNil))) tNil)))
    (tSeq (tAsg (tCall (SpD G.K (R_chance G)) [] E (tCons (tVar 4) (tCons (tVar 6) (tCons (tVar 7) (tCons (tC (.int 0)) tNil))))) (gName 10))
    (tSeq (tAsg (tCall (SpD G.K (R__law_sum G)) [] E (tCons (tCall (SpD G.K (R__law_times G)) [] E (tCons (tVar 10) (tCons (tVar 9) tNil))) (tCons (tCall (SpD G.K (R__law_times G)) [] E (tCons (tTup (tCons (tOp (rI0 fun i j => .int (i - j)) (tOp (rIxT G.K) (tVar 10) (tC (.int 1))) (tOp (rIxT G.K) (tVar 10) (tC (.int 0)))) (tCons (tOp (rIxT G.K) (tVar 10) (tC (.int 1))) tNil))) (tCons (tVar 8) tNil))) tNil))) (gName 11))
    (tSeq (tIfS (tOr (tTest (tOp (rNeD G.K) (tCall (SpD G.K (R_mean_heads G)) [] E (tCons (tVar 4) (tCons (tVar 6) tNil))) (tVar 8))) (tTest (tOp (rNeD G.K) (tCall (SpD G.K (R_mean_both G)) [] E (tCons (tVar 4) (tCons (tVar 6) (tCons (tVar 7) tNil)))) (tCall (SpD G.K (R__law_sum G)) [] E (tCons (tCall (SpD G.K (R_mean G)) [] E (tCons (tVar 4) (tCons (tVar 6) (tCons (tVar 7) (tCons (tC (.int 0)) tNil))))) (tCons (tVar 11) tNil)))))) (tRet (tC (.bl false))) tNext)
    (tSeq (tAsg (tOp (rIxL G.K) (tLst (tCons (tC (.int 0)) (tCons (tC (.int 41)) (tCons (tC .non) (tCons (tC (.bl true)) (tCons (tC (.str "1")) tNil)))))) (tCall (SpD G.K (R__law_taken G)) [] E (tCons (tVar 1) (tCons (tC (.int 5)) tNil)))) (gName 12))
    (tSeq (tIfS (tOr (tTest (tOp (rNeD G.K) (tCall (SpD G.K (R__law_refused_k05 G)) [] E (tCons (tVar 4) (tCons (tVar 12) (tCons (tC (.int 0)) tNil)))) (tLst (tCons (tC (.str "run")) (tCons (tVar 12) tNil))))) (tTest (tOp (rNeD G.K) (tCall (SpD G.K (R__law_refused_k05 G)) [] E (tCons (tVar 4) (tCons (tVar 12) (tCons (tC (.int 1)) tNil)))) (tLst (tCons (tC (.str "run")) (tCons (tVar 12) tNil)))))) (tRet (tC (.bl false))) tNext)
    (tRet (tOp (rEqD G.K) (tCall (SpD G.K (R__law_refused_k05 G)) [] E (tCons (tVar 4) (tCons (tVar 6) (tCons (tC (.int 41)) tNil)))) (tLst (tCons (tC (.str "run")) (tCons (tC (.int 41)) tNil)))))))))))))))
end RA
set_option Elab.async false
set_option linter.all false
set_option maxRecDepth 100000
set_option maxHeartbeats 4000000
namespace RA
open PySem PySem.Spec PyProof.Rows L2 Evl
/-! the walk over a reading -/
local macro_rules | `(tactic| walk_at "ra1") => `(tactic| first
  | exact ev_int
  | exact ev_bl
  | exact ev_non
  | exact ev_str
  | exact ev_ty
  | exact ev_ref
  | (refine ev_var ?_; rfl)
  | exact ea_nil
  | apply ea_cons
  | apply ev_opI0
  | apply ev_opB0
  | apply ev_opI
  | refine ev_neg ?_
  | apply ev_ixT
  | (show atI _ _ = some _; rfl)
  | refine ev_tup ?_ (by first | decide | simp)
  | apply ev_cb
  | apply ev_call
  | refine et_test ?_
  | refine et_B ?_
  | refine et_not ?_
  | exact et_yes)
local macro_rules | `(tactic| walk_at "ra") => `(tactic| repeat' (walk_at "ra1"))
variable {G : Gam} {ds : List D} {ts : TSt} {m : Mem} {P : Oc → Prop} {E : XK} {tl : TA}
theorem p__law_until (h : R__law_until G ds m P) : ExS G.K E (t__law_until G E) (startT n__law_until ds) m (Fin P) := by
  obtain ⟨p, n, rfl, hp, h0, h1, hn, hn2, h⟩ := h
  show ExS G.K E (t__law_until G E) [some (.tup [.int p.num, .int p.den]), some (.int n), none, none] m (Fin P)
  refine s_seq (s_asg (d := frD 0) (by rw [frD_zero]; walk_at "ra") ?_)
  refine s_seq (s_for (wk_rng1 (n := n) (by walk_at "ra") (by omega) (by omega))
    (fun a ts m1 => ∃ o, m1 = m ∧ a ≤ n.toNat ∧ ts = [some (.tup [.int p.num, .int p.den]), some (.int n), some (frD (untilR p (a : Int))), o])
    ⟨none, rfl, by omega, by rw [show ((0 : Nat) : Int) = 0 from rfl, until_zero]; rfl⟩ (fun _ _ _ _ => trivial) ?_ ?_)
  · rintro a dt ts1 m1 ha ⟨o, rfl, hl2, rfl⟩
    have ha' : a < n.toNat := by
      have := (List.getElem?_eq_some_iff.mp ha).1
      simpa [rngD] using this
    refine ⟨_, _, gt_nm, ?_⟩
    show ExS G.K E _ [some (.tup [.int p.num, .int p.den]), some (.int n), some (frD (untilR p (a : Int))), some dt] m1 _
    have s1 : Sz 3012 (untilR p (a : Int)) := sz_until (l := 300) hp h0 h1 (by omega) (by omega)
    have s2 := sz_inv hp (by grind : p ≠ 0)
    have e : EvD G.K (tTup (tCons (tOp (rIxT G.K) (tVar 0) (tC (.int 1))) (tCons (tOp (rIxT G.K) (tVar 0) (tC (.int 0))) tNil))) [some (.tup [.int p.num, .int p.den]), some (.int n), some (frD (untilR p (a : Int))), some dt] m1 (frD p⁻¹) := by
      rw [frD_inv h0]; walk_at "ra"
    refine s_asg (d := frD (untilR p ((a + 1 : Nat) : Int))) ?_ ⟨some dt, rfl, by omega, rfl⟩
    rw [until_succ h0 h1]
    exact e_ltimes (ea_cons (e_lsum (ea_cons (ev_var rfl) (ea_cons (by rw [frD_one]; walk_at "ra") ea_nil)) s1 sz_one) (ea_cons e ea_nil)) (s1.add sz_one) s2
  · rintro ts1 m1 ⟨o, rfl, hl2, rfl⟩
    have e : (rngD 0 n).length = n.toNat := by simp [rngD]
    rw [e]
    have e2 : (n.toNat : Int) = n := by omega
    rw [e2]
    exact s_ret (d := frD (untilR p n)) (by walk_at "ra") h
theorem e_luntil {p : Rat} {n : Int} (h : EvL G.K tl ts m [frD p, .int n]) (hp : Sz 5 p) (h0 : 0 < p) (h1 : p < 1) (hn : 0 ≤ n) (hn2 : n ≤ 300) : EvD G.K (tCall (SpD G.K (R__law_until G)) [] E tl) ts m (frD (untilR p n)) :=
  ev_call h ⟨p, n, rfl, hp, h0, h1, hn, hn2, rfl, rfl⟩
theorem p__law_refused_k05 (hx : PySem.W.exmOne G.K (.ref G.cBadRun) (.ref G.cBadRun) = some true) (h : R__law_refused_k05 G ds m P) : ExS G.K E (t__law_refused_k05 G E) (startT n__law_refused_k05 ds) m (Fin P) := by
  obtain ⟨u, d, j, k, rfl, hu, hd, fj, p⟩ := h
  show ExS G.K E (t__law_refused_k05 G E) [some (coinD G u d), some j, some (.int k), none, none] m (Fin P)
  refine s_seq (s_asg (d := .non) (by walk_at "ra") ?_)
  show ExS G.K E _ [some (coinD G u d), some j, some (.int k), some .non, none] m (Fin P)
  refine s_seq (s_tryE (tb := tb0__law_refused_k05 G) (fun _ _ _ _ h => h) fun E' => s_if (b := decide (k = 0)) (et_test (ev_eq (d1 := .int k) (d2 := .int 0) (by walk_at "ra") ev_int rfl)) (fun c => ?_) (fun c => ?_))
  · have c := of_decide_eq_true c
    rw [if_pos c] at p
    refine s_dropX (ev_callX (EvL.p (ds := [coinD G u d, j]) (by walk_at "ra") ⟨u, d, j, rfl, hu, hd, fj, ?_⟩))
    cases cj : withinD j 1 40 with
    | true =>
      rw [runTold_ok cj] at p
      rw [runOc_ok cj]
      exact s_ret (d := .non) (by walk_at "ra") p
    | false =>
      rw [runTold_no cj] at p
      rw [runOc_no cj]
      exact catch_val hx (fun _ => rfl) (fun _ _ => rfl) (s_ret (ev_var rfl) p)
  · have c := of_decide_eq_false c
    rw [if_neg c] at p
    refine s_dropX (ev_callX (EvL.p (ds := [coinD G u d, j, .int k]) (by walk_at "ra") ⟨u, d, j, .int k, rfl, hu, hd, fj, rfl, ?_⟩))
    cases cj : withinD j 1 40 with
    | true =>
      rw [runTold_ok cj] at p
      rw [runOc_ok cj]
      cases ck : withinD (.int k) 1 40 with
      | true =>
        rw [runTold_ok ck] at p
        rw [runOc_ok ck]
        exact s_ret (d := .non) (by walk_at "ra") p
      | false =>
        rw [runTold_no ck] at p
        rw [runOc_no ck]
        exact catch_val hx (fun _ => rfl) (fun _ _ => rfl) (s_ret (ev_var rfl) p)
    | false =>
      rw [runTold_no cj] at p
      rw [runOc_no cj]
      exact catch_val hx (fun _ => rfl) (fun _ _ => rfl) (s_ret (ev_var rfl) p)
def badL5 : List D := [.int 0, .int 41, .non, .bl true, .str "1"]
theorem bad5 {x : Int} (h0 : 0 ≤ x) (h : x < 5) : ∃ b, atI badL5 x = some b ∧ Odd b ∧ withinD b 1 40 = false := by
  rcases (by omega : x = 0 ∨ x = 1 ∨ x = 2 ∨ x = 3 ∨ x = 4) with rfl | rfl | rfl | rfl | rfl
  · exact ⟨_, rfl, odd_int _, rfl⟩
  · exact ⟨_, rfl, odd_int _, rfl⟩
  · exact ⟨_, rfl, odd_non, rfl⟩
  · exact ⟨_, rfl, odd_bl _, rfl⟩
  · exact ⟨_, rfl, odd_str _, rfl⟩
theorem p_law_k05 (h : R_law G ds m P) : ExS G.K E (t_law_k05 G E) (startT n_law_k05 ds) m (Fin P) := by
  obtain ⟨ns, rfl, rfl, hn, p⟩ := h
  show ExS G.K E (t_law_k05 G E) [some (.lst (ns.map .int)), none, none, none, none, none, none, none, none, none, none, none, none] [] (Fin P)
  refine s_seq (s_asgP (ev_lstM (EvL.p (ds := [.lst (ns.map .int), .int 0, .int 225, .int 0]) (by walk_at "ra") ⟨by simp, fun l _ => ?_⟩)))
  show ExS G.K E _ [some (.lst (ns.map .int)), some (.ref l), none, none, none, none, none, none, none, none, none, none, none] [(l, rowD ns 0 225 0)] (Fin P)
  refine s_seq (s_parP (ea_consP (ev_callP (EvL.p (ds := [.ref l]) (by walk_at "ra") ⟨l, rfl, 0, _, rfl, row0 hn (by decide), fun u d r1 hab hr1 => ?_⟩))))
  refine ea_consP (ev_callP (EvL.p (ds := [.ref l, .int 40]) (by walk_at "ra") ⟨l, 40, rfl, by decide, by decide, 0, r1, rfl, hr1, fun j k r2 j1 j2 k1 k2 hr2 => ?_⟩))
  refine ea_nilP ⟨_, _, rfl, ?_⟩
  obtain ⟨su, sd⟩ := drawn_share hab
  have rj : Run j := ⟨j1, j2⟩
  have rk : Run k := ⟨k1, k2⟩
  have ps := pOf_sum su sd
  have pp := pOf_pos su sd
  have qp := pOf_pos sd su
  have pl := pOf_lt su sd
  have ql := pOf_lt sd su
  have zp := sz_pOf su sd
  have zq := sz_pOf sd su
  show ExS G.K E _ [some (.lst (ns.map .int)), some (.ref l), some (.tup [.int u, .int d]), some (.lst [.int j, .int k]), none, none, none, none, none, none, none, none, none] [(l, r2)] _
  refine s_seq (s_par (d1 := coinD G u d) (d2 := .lst [frD (pOf u d), frD (pOf d u)]) (ea_cons (ev_coinD (by walk_at "ra") su sd) (ea_cons (e_shares (by walk_at "ra") su sd) ea_nil)) ?_)
  show ExS G.K E _ [some (.lst (ns.map .int)), some (.ref l), some (.tup [.int u, .int d]), some (.lst [.int j, .int k]), some (coinD G u d), some (.lst [frD (pOf u d), frD (pOf d u)]), none, none, none, none, none, none, none] [(l, r2)] _
  refine s_seq (s_asgGP (EvD.p (d := .lst [.int j, .int k]) (by walk_at "ra") ⟨_, _, gl_two, ?_⟩))
  show ExS G.K E _ [some (.lst (ns.map .int)), some (.ref l), some (.tup [.int u, .int d]), some (.lst [.int j, .int k]), some (coinD G u d), some (.lst [frD (pOf u d), frD (pOf d u)]), some (.int j), some (.int k), none, none, none, none, none] [(l, r2)] _
  refine s_seq (s_par (d1 := frD (untilR (pOf u d) j)) (d2 := frD (untilR (pOf d u) k)) (ea_cons (e_luntil (ea_cons (ev_ixL (ev_var rfl) ev_int rfl) (by walk_at "ra")) zp pp pl (by omega) (by omega)) (ea_cons (e_luntil (ea_cons (ev_ixL (ev_var rfl) ev_int rfl) (by walk_at "ra")) zq qp ql (by omega) (by omega)) ea_nil)) ?_)
  show ExS G.K E _ [some (.lst (ns.map .int)), some (.ref l), some (.tup [.int u, .int d]), some (.lst [.int j, .int k]), some (coinD G u d), some (.lst [frD (pOf u d), frD (pOf d u)]), some (.int j), some (.int k), some (frD (untilR (pOf u d) j)), some (frD (untilR (pOf d u) k)), none, none, none] [(l, r2)] _
  have s1 : Sz 412 (untilR (pOf u d) j) := sz_until (l := 40) zp pp pl (by omega) (by omega)
  have s2 : Sz 412 (untilR (pOf d u) k) := sz_until (l := 40) zq qp ql (by omega) (by omega)
  have s3 := sz_mean (s := 0) su sd rj rk (by omega) (by omega)
  have s4 := sz_chance (s := 0) su sd rj rk (by omega) (by omega)
  have key := mean_both_eq ps pp qp j1 k1
  generalize hC : chanceR (pOf u d) (pOf d u) j k 0 = C at *
  refine s_seq (s_asg (d := frD C) (by rw [← hC]; exact e_chance (by walk_at "ra") su sd rj rk (by omega) (by omega)) ?_)
  show ExS G.K E _ [some (.lst (ns.map .int)), some (.ref l), some (.tup [.int u, .int d]), some (.lst [.int j, .int k]), some (coinD G u d), some (.lst [frD (pOf u d), frD (pOf d u)]), some (.int j), some (.int k), some (frD (untilR (pOf u d) j)), some (frD (untilR (pOf d u) k)), some (.tup [.int C.num, .int C.den]), none, none] [(l, r2)] _
  have sC := sz_one.sub s4
  refine s_seq (s_asg (d := frD (C * untilR (pOf d u) k + (1 - C) * untilR (pOf u d) j)) (e_lsum (ea_cons (e_ltimes (p := C) (q := untilR (pOf d u) k) (by walk_at "ra") s4 s2) (ea_cons (e_ltimes (p := 1 - C) (q := untilR (pOf u d) j) (by rw [frD_comp]; walk_at "ra") sC s1) ea_nil)) (s4.mul s2) (sC.mul s1)) ?_)
  show ExS G.K E _ [some (.lst (ns.map .int)), some (.ref l), some (.tup [.int u, .int d]), some (.lst [.int j, .int k]), some (coinD G u d), some (.lst [frD (pOf u d), frD (pOf d u)]), some (.int j), some (.int k), some (frD (untilR (pOf u d) j)), some (frD (untilR (pOf d u) k)), some (.tup [.int C.num, .int C.den]), some (frD (C * untilR (pOf d u) k + (1 - C) * untilR (pOf u d) j)), none] [(l, r2)] _
  refine s_seq (s_if0 (et_or0 (t_neF0 (e_meanH (by walk_at "ra") su sd rj) (ev_var rfl) rfl)
    (t_neF0 (e_meanB (by walk_at "ra") su sd rj rk) (e_lsum (ea_cons (e_mean (by walk_at "ra") su sd rj rk (by omega) (by omega)) (by walk_at "ra")) s3 ((s4.mul s2).add (sC.mul s1))) key)) (s_next ?_))
  refine s_seq (s_asgP (ev_opP (EvD.p (d := .lst badL5) (ev_lst (by unfold badL5; walk_at "ra") (by decide)) (ev_taken (r := r2) (k := 0) (by walk_at "ra") (by decide) (by decide) rfl hr2 fun x r3 h0 h9 hr3 => ?_))))
  obtain ⟨b, eb, ob, wb⟩ := bad5 h0 h9
  refine ⟨b, od_ixL eb, ?_⟩
  show ExS G.K E _ [some (.lst (ns.map .int)), some (.ref l), some (.tup [.int u, .int d]), some (.lst [.int j, .int k]), some (coinD G u d), some (.lst [frD (pOf u d), frD (pOf d u)]), some (.int j), some (.int k), some (frD (untilR (pOf u d) j)), some (frD (untilR (pOf d u) k)), some (.tup [.int C.num, .int C.den]), some (frD (C * untilR (pOf d u) k + (1 - C) * untilR (pOf u d) j)), some b] [(l, r3)] _
  have fb := ob.1
  refine s_seq (s_if0 (et_or0 (t_toldN ob (ev_call (ds := [coinD G u d, b, .int 0]) (by walk_at "ra") ⟨u, d, b, 0, rfl, su, sd, fb, ?_⟩) (ev_lst (by walk_at "ra") (by simp)))
    (t_toldN ob (ev_call (ds := [coinD G u d, b, .int 1]) (by walk_at "ra") ⟨u, d, b, 1, rfl, su, sd, fb, ?_⟩) (ev_lst (by walk_at "ra") (by simp)))) (s_next ?_))
  · unfold runTold; rw [wb]; exact ⟨rfl, rfl⟩
  · unfold runTold; rw [wb]; exact ⟨rfl, rfl⟩
  refine s_ret (e_told (odd_int 41) (ev_call (ds := [coinD G u d, .int j, .int 41]) (by walk_at "ra") ⟨u, d, .int j, 41, rfl, su, sd, rfl, ?_⟩) (ev_lst (by walk_at "ra") (by simp))) (p _)
  unfold runTold
  rw [if_pos (within_run rj)]
  exact ⟨rfl, rfl⟩
end RA
set_option Elab.async false
set_option linter.all false
set_option maxRecDepth 100000
set_option maxHeartbeats 4000000
/-! The defs' readings (printed by gen.py). -/
namespace RA
open PySem PySem.Spec PyProof.Rows L2 Evl
/-- is_fraction: 0 value -/
def n_is_fraction : List Str := ["value"]
def t_is_fraction (G : Gam) (E : XK) : TS :=
  (tSeq (tIfS (tOr (tNot (tB (tCB (rIsi G.K) (tCons (tVar 0) (tCons (tC (.ty "tuple")) tNil))))) (tOr (tTest (tOp rNe (tCB (rLen G.K) (tCons (tVar 0) tNil)) (tC (.int 2)))) (tOr (tNot (tB (tCall (SpD G.K (R_is_whole G)) [] E (tCons (tOp (rIxT G.K) (tVar 0) (tC (.int 0))) tNil)))) (tNot (tB (tCall (SpD G.K (R_is_whole G)) [] E (tCons (tOp (rIxT G.K) (tVar 0) (tC (.int 1))) tNil))))))) (tRet (tC (.bl false))) tNext)
    (tRet (tAndV (tOp (rI0 fun i j => .bl (decide (j < i))) (tOp (rIxT G.K) (tVar 0) (tC (.int 1))) (tC (.int 0))) (tOp rEq (tCall (SpD G.K (R_common G)) [] E (tCons (tOp (rIxT G.K) (tVar 0) (tC (.int 0))) (tCons (tOp (rIxT G.K) (tVar 0) (tC (.int 1))) tNil))) (tC (.int 1))))))
/-- all_coins: 0 some, 1 one, 2 other, 3 pair -/
def n_all_coins : List Str := ["some", "one", "other", "pair"]
def t_all_coins (G : Gam) (E : XK) : TS :=
  (tSeq (tAsg (tLc2 (iRng2 (tCons (tC (.int 1)) (tCons (tOp (rI0 fun i j => .int (i + j)) (tC (.int 9)) (tC (.int 1))) tNil))) (gName 1) tYes (iRng2 (tCons (tC (.int 1)) (tCons (tOp (rI0 fun i j => .int (i + j)) (tC (.int 9)) (tC (.int 1))) tNil))) (gName 2) tYes (tTup (tCons (tVar 1) (tCons (tVar 2) tNil))) [1, 2] [2]) (gName 0))
    (tRet (tLc (iList G.K (tVar 0)) (gName 3) (tTest (tOp rEq (tCall (SpD G.K (R_common G)) [] E0 (tCons (tOp (rIxT G.K) (tVar 3) (tC (.int 0))) (tCons (tOp (rIxT G.K) (tVar 3) (tC (.int 1))) tNil))) (tC (.int 1)))) (tVar 3) [3])))
/-- fair: 0 coin, 1 most, 2 every, 3 j, 4 k -/
def n_fair : List Str := ["coin", "most", "every", "j", "k"]
def t_fair (G : Gam) (E : XK) : TS :=
  (tSeq (tDrop (tCall (SpD G.K (R_need_count G)) [] E (tCons (tVar 1) (tCons (tC (.int 1)) (tCons (tC (.int 30)) tNil)))))
    (tSeq (tAsg (tLc2 (iRng2 (tCons (tC (.int 1)) (tCons (tOp (rI0 fun i j => .int (i + j)) (tVar 1) (tC (.int 1))) tNil))) (gName 3) tYes (iRng2 (tCons (tC (.int 1)) (tCons (tOp (rI0 fun i j => .int (i + j)) (tVar 1) (tC (.int 1))) tNil))) (gName 4) tYes (tTup (tCons (tVar 3) (tCons (tVar 4) tNil))) [3, 4] [4]) (gName 2))
    (tRet (tLc (iList G.K (tVar 2)) (gTup G.K 2 (gCons (gName 3) (gCons (gName 4) gNil))) (tTest (tOp (rEqD G.K) (tCall (SpD G.K (R_chance_by G)) [] E0 (tCons (tVar 0) (tCons (tVar 3) (tCons (tVar 4) (tCons (tC (.int 0)) tNil))))) (tC (.ref G.vHALF)))) (tTup (tCons (tVar 3) (tCons (tVar 4) tNil))) [3, 4]))))
/-- fitting: 0 j, 1 k, 2 told, 3 pair -/
def n_fitting : List Str := ["j", "k", "told", "pair"]
def t_fitting (G : Gam) (E : XK) : TS :=
  (tSeq (tDrop (tCall (SpD G.K (R_need_runs G)) [] E (tCons (tVar 0) (tCons (tVar 1) (tCons (tC (.int 40)) tNil)))))
    (tSeq (tIfS (tNot (tB (tCall (SpD G.K (R_is_fraction G)) [] E (tCons (tVar 2) tNil)))) (tRz (tMkE G.cBadChance (spE0 G.cBadChance) tNil) E) tNext)
    (tRet (tLc (iList G.K (tCall (SpD G.K (R_all_coins G)) [] E tNil)) (gName 3) (tTest (tOp (rEqD G.K) (tCall (SpD G.K (R_chance_by G)) [] E0 (tCons (tMake G.cCoin (SpD G.K (R_Coin_init G)) [] E0 (tCons (tOp (rIxT G.K) (tVar 3) (tC (.int 0))) (tCons (tOp (rIxT G.K) (tVar 3) (tC (.int 1))) tNil))) (tCons (tVar 0) (tCons (tVar 1) (tCons (tC (.int 0)) tNil))))) (tVar 2))) (tVar 3) [3]))))
/-- off_half: 0 one, 1 apart -/
def n_off_half : List Str := ["one", "apart"]
def t_off_half (G : Gam) (E : XK) : TS :=
  (tSeq (tAsg (tCall (SpD G.K (R_less G)) [] E (tCons (tVar 0) (tCons (tC (.ref G.vHALF)) tNil))) (gName 1))
    (tRet (tIf (tTest (tOp (rI0 fun i j => .bl (decide (j ≤ i))) (tOp (rIxT G.K) (tVar 1) (tC (.int 0))) (tC (.int 0)))) (tVar 1) (tTup (tCons (tUn (rU fun i => .int (-i)) (tOp (rIxT G.K) (tVar 1) (tC (.int 0)))) (tCons (tOp (rIxT G.K) (tVar 1) (tC (.int 1))) tNil))))))
/-- nearest: 0 j, 1 k, 2 best, 3 found, 4 pair, 5 apart -/
def n_nearest : List Str := ["j", "k", "best", "found", "pair", "apart"]
def t_nearest (G : Gam) (E : XK) : TS :=
  (tSeq (tDrop (tCall (SpD G.K (R_need_runs G)) [] E (tCons (tVar 0) (tCons (tVar 1) (tCons (tC (.int 40)) tNil)))))
    (tSeq (tPar 2 3 (tCons (tC (.ref G.vONE)) (tCons (tLst tNil) tNil)))
    (tSeq (tFor (iList G.K (tCall (SpD G.K (R_all_coins G)) [] E tNil)) (gName 4) (tSeq (tAsg (tCall (SpD G.K (R_off_half G)) [] E (tCons (tCall (SpD G.K (R_chance_by G)) [] E (tCons (tMake G.cCoin (SpD G.K (R_Coin_init G)) [] E (tCons (tOp (rIxT G.K) (tVar 4) (tC (.int 0))) (tCons (tOp (rIxT G.K) (tVar 4) (tC (.int 1))) tNil))) (tCons (tVar 0) (tCons (tVar 1) (tCons (tC (.int 0)) tNil))))) tNil)) (gName 5))
    (tSeq (tIfS (tB (tCall (SpD G.K (R_is_less G)) [] E (tCons (tVar 5) (tCons (tVar 2) tNil)))) (tPar 2 3 (tCons (tVar 5) (tCons (tLst tNil) tNil))) tNext)
    (tIfS (tTest (tOp (rEqD G.K) (tVar 5) (tVar 2))) (tDrop (tBM G.K "list" rAppend (tVar 3) (tCons (tVar 4) tNil))) tNext))))
    (tRet (tVar 3)))))
end RA
set_option Elab.async false
set_option linter.all false
set_option maxRecDepth 100000
set_option maxHeartbeats 4000000
/-! The defs' readings (printed by gen.py). -/
namespace RA
open PySem PySem.Spec PyProof.Rows L2 Evl
/-- need_count: 0 value, 1 low, 2 high -/
def n_need_count : List Str := ["value", "low", "high"]
def t_need_count (G : Gam) (E : XK) : TS :=
  (tIfS (tNot (tB (tCall (SpD G.K (R_is_within G)) [] E (tCons (tVar 0) (tCons (tVar 1) (tCons (tVar 2) tNil)))))) (tRz (tMkE G.cBadCount (spE1 G.cBadCount "value") (tCons (tVar 0) tNil)) E) tNext)
/-- later_states: 0 j, 1 k, 2 state, 3 up, 4 down -/
def n_later_states : List Str := ["j", "k", "state", "up", "down"]
def t_later_states (G : Gam) (E : XK) : TS :=
  (tSeq (tPar 3 4 (tCons (tOp (rI0 fun i j => .int (i + j)) (tCB (rMax G.K) (tCons (tLst (tCons (tVar 2) (tCons (tC (.int 0)) tNil))) tNil)) (tC (.int 1))) (tCons (tOp (rI0 fun i j => .int (i - j)) (tCB (rMin G.K) (tCons (tLst (tCons (tVar 2) (tCons (tC (.int 0)) tNil))) tNil)) (tC (.int 1))) tNil)))
    (tRet (tTup (tCons (tIf (tTest (tOp (rI0 fun i j => .bl (decide (i < j))) (tVar 3) (tVar 0))) (tVar 3) (tC .non)) (tCons (tIf (tTest (tOp (rI0 fun i j => .bl (decide (j < i))) (tVar 4) (tUn (rU fun i => .int (-i)) (tVar 1)))) (tVar 4) (tC .non)) tNil)))))
/-- none_in: 0 coin, 1 j, 2 k, 3 tosses, 4 rows, 5 whole, 6 turn, 7 found, 8 state, 9 many, 10 there, 11 share -/
def n_none_in : List Str := ["coin", "j", "k", "tosses", "rows", "whole", "turn", "found", "state", "many", "there", "share"]
def t_none_in (G : Gam) (E : XK) : TS :=
  (tSeq (tDrop (tCall (SpD G.K (R_need_runs G)) [] E (tCons (tVar 1) (tCons (tVar 2) (tCons (tC (.int 40)) tNil)))))
    (tSeq (tDrop (tCall (SpD G.K (R_need_count G)) [] E (tCons (tVar 3) (tCons (tC (.int 0)) (tCons (tC (.int 200)) tNil)))))
    (tSeq (tPar 4 5 (tCons (tDisp [((tC (.int 0)), (tC (.int 1)))]) (tCons (tC (.int 1)) tNil)))
    (tSeq (tFor (iRng1 (tCons (tVar 3) tNil)) (gName 6) (tSeq (tAsg tDNewK (gName 7))
    (tSeq (tLock (tFor (iItems (tVar 4)) (gTup G.K 2 (gCons (gName 8) (gCons (gName 9) gNil))) (tFor (RZ.iZipA G.K (tCons (tCall (SpD G.K (R_later_states G)) [] E (tCons (tVar 1) (tCons (tVar 2) (tCons (tVar 8) tNil)))) (tCons (tTup (tCons (tFld G.K (tVar 0) "up") (tCons (tFld G.K (tVar 0) "down") tNil))) tNil))) (gTup G.K 2 (gCons (gName 10) (gCons (gName 11) gNil))) (tIfS (tB (tNotN (tVar 10))) (sDPut (tVar 7) (tVar 10) (tOp (rI0 fun i j => .int (i + j)) (tDGet2 (tVar 7) (tVar 10) (tC (.int 0))) (tOp (rI CMulW fun i j => .int (i * j)) (tVar 9) (tVar 11)))) tNext))))
    (tPar 4 5 (tCons (tVar 7) (tCons (tOp (rI CMulW fun i j => .int (i * j)) (tVar 5) (tOp (rI0 fun i j => .int (i + j)) (tFld G.K (tVar 0) "up") (tFld G.K (tVar 0) "down"))) tNil))))))
    (tRet (tCall (SpD G.K (R_fraction G)) [] E (tCons (tCB (rSum G.K) (tCons (tListVals (tVar 4)) tNil)) (tCons (tVar 5) tNil))))))))
/-- _law_weight: 0 _law_d, 1 _law_j, 2 _law_k, 3 _law_tossed, 4 _law_state, 5 _law_weight_here, 6 _law_side -/
def n__law_weight : List Str := ["_law_d", "_law_j", "_law_k", "_law_tossed", "_law_state", "_law_weight_here", "_law_side"]
def t__law_weight (G : Gam) (E : XK) : TS :=
  (tSeq (tAsg (tTup (tCons (tC (.int 0)) (tCons (tC (.int 1)) tNil))) (gTup G.K 2 (gCons (gName 4) (gCons (gName 5) gNil))))
    (tSeq (tFor (iTup G.K (tVar 3)) (gName 6) (tSeq (tAsg (tOp (rIxL G.K) (tCall (SpD G.K (R__law_next G)) [] E (tCons (tVar 1) (tCons (tVar 2) (tCons (tVar 4) tNil)))) (tVar 6)) (gName 4))
    (tSeq (tAsg (tOp (rI CMulW fun i j => .int (i * j)) (tVar 5) (tOp (rIxT G.K) (tVar 0) (tVar 6))) (gName 5))
    (tIfS (tTest (tOp rEq (tCB rAbs (tCons (tVar 4) tNil)) (tC (.int 100)))) (tRet (tC (.int 0))) tNext))))
    (tRet (tVar 5))))
/-- _law_rows: 0 _law_many, 1 _law_found, 2 _law_turn, 3 _law_tossed -/
def n__law_rows : List Str := ["_law_many", "_law_found", "_law_turn", "_law_tossed"]
def t__law_rows (G : Gam) (E : XK) : TS :=
  (tSeq (tAsg (tLst (tCons (tTup tNil) tNil)) (gName 1))
    (tSeq (tFor (iRng1 (tCons (tVar 0) tNil)) (gName 2) (tAsg (tOp (rCatL G.K) (tLc (iList G.K (tVar 1)) (gName 3) tYes (tOp (rCatA G.K) (tVar 3) (tTup (tCons (tC (.int 0)) tNil))) [3]) (tLc (iList G.K (tVar 1)) (gName 3) tYes (tOp (rCatA G.K) (tVar 3) (tTup (tCons (tC (.int 1)) tNil))) [3])) (gName 1)))
    (tRet (tVar 1))))
/-- _law_refused: 0 _law_coin, 1 _law_j, 2 _law_k, 3 _law_tosses, 4 _law_told, 5 e -/
def tb0__law_refused_k04 (G : Gam) (E2 : XK) : TS :=
  (tDrop (tCall (SpD G.K (R_none_in G)) [] E2 (tCons (tVar 0) (tCons (tVar 1) (tCons (tVar 2) (tCons (tVar 3) tNil))))))
def n__law_refused_k04 : List Str := ["_law_coin", "_law_j", "_law_k", "_law_tosses", "_law_told", "e"]
def t__law_refused_k04 (G : Gam) (E : XK) : TS :=
  (tSeq (tAsg (tC .non) (gName 4))
    (tSeq (tTry G.K (fun cls d _ H => E cls d H) [((Value.ref G.cBadRun), (some 5), fun a cls d => (tAsg (tLst (tCons (tC (.str "run")) (tCons (tXf a cls d G.cBadRun "value" (tVar 5)) tNil))) (gName 4))), ((Value.ref G.cBadCount), (some 5), fun a cls d => (tAsg (tLst (tCons (tC (.str "count")) (tCons (tXf a cls d G.cBadCount "value" (tVar 5)) tNil))) (gName 4)))] (fun W => tb0__law_refused_k04 G (EW 6 W)))
    (tRet (tVar 4))))
/-- law: 0 _law_script, 1 _law_row, 2 _law_d, 3 _law_runs_here, 4 _law_many, 5 _law_coin, 6 _law_whole, 7 _law_j, 8 _law_k, 9 _law_turn, 10 _law_weights, 11 _law_tossed, 12 _law_bad -/
def n_law_k04 : List Str := ["_law_script", "_law_row", "_law_d", "_law_runs_here", "_law_many", "_law_coin", "_law_whole", "_law_j", "_law_k", "_law_turn", "_law_weights", "_law_tossed", "_law_bad"]
def t_law_k04 (G : Gam) (E : XK) : TS :=
  (tSeq (tAsg (tLst (tCons (tVar 0) (tCons (tC (.int 0)) (tCons (tC (.int 224)) (tCons (tC (.int 0)) tNil))))) (gName 1))
    (tSeq (tAsg (tTup (tCons (tCall (SpD G.K (R__law_drawn G)) [] E (tCons (tVar 1) tNil)) (tCons (tCall (SpD G.K (R__law_runs G)) [] E (tCons (tVar 1) (tCons (tC (.int 6)) tNil))) (tCons (tCall (SpD G.K (R__law_taken G)) [] E (tCons (tVar 1) (tCons (tC (.int 9)) tNil))) tNil)))) (gTup G.K 3 (gCons (gName 2) (gCons (gName 3) (gCons (gName 4) gNil)))))
    (tSeq (tPar 5 6 (tCons (tMake G.cCoin (SpD G.K (R_Coin_init G)) [] E (tCons (tOp (rIxT G.K) (tVar 2) (tC (.int 0))) (tCons (tOp (rIxT G.K) (tVar 2) (tC (.int 1))) tNil))) (tCons (tC (.int 1)) tNil)))
    (tSeq (tAsg (tVar 3) (gLst G.K 2 (gCons (gName 7) (gCons (gName 8) gNil))))
    (tSeq (tFor (iRng1 (tCons (tVar 4) tNil)) (gName 9) (tAsg (tOp (rI CMulW fun i j => .int (i * j)) (tVar 6) (tOp (rI0 fun i j => .int (i + j)) (tOp (rIxT G.K) (tVar 2) (tC (.int 0))) (tOp (rIxT G.K) (tVar 2) (tC (.int 1))))) (gName 6)))
    (tSeq (tAsg (tLc (iList G.K (tCall (SpD G.K (R__law_rows G)) [] E (tCons (tVar 4) tNil))) (gName 11) tYes (tCall (SpD G.K (R__law_weight G)) [] E0 (tCons (tVar 2) (tCons (tVar 7) (tCons (tVar 8) (tCons (tVar 11) tNil))))) [11]) (gName 10))
    (tSeq (tIfS (tTest (tOp (rNeD G.K) (tCall (SpD G.K (R_none_in G)) [] E (tCons (tVar 5) (tCons (tVar 7) (tCons (tVar 8) (tCons (tVar 4) tNil))))) (tCall (SpD G.K (R__law_frac G)) [] E (tCons (tCB (rSum G.K) (tCons (tVar 10) tNil)) (tCons (tVar 6) tNil))))) (tRet (tC (.bl false))) tNext)
    (tSeq (tIfS (tOr (tTest (tOp (rNeD G.K) (tCall (SpD G.K (R_none_in G)) [] E (tCons (tVar 5) (tCons (tC (.int 1)) (tCons (tC (.int 1)) (tCons (tOp (rI0 fun i j => .int (i + j)) (tVar 4) (tC (.int 1))) tNil))))) (tTup (tCons (tC (.int 0)) (tCons (tC (.int 1)) tNil))))) (tTest (tOp (rNeD G.K) (tCall (SpD G.K (R_none_in G)) [] E (tCons (tVar 5) (tCons (tC (.int 40)) (tCons (tC (.int 40)) (tCons (tVar 4) tNil))))) (tTup (tCons (tC (.int 1)) (tCons (tC (.int 1)) tNil)))))) (tRet (tC (.bl false))) tNext)
    (tSeq (tAsg (tOp (rIxL G.K) (tLst (tCons (tC (.int 0)) (tCons (tC (.int 41)) (tCons (tUn (rU fun i => .int (-i)) (tC (.int 1))) (tCons (tC .non) (tCons (tC (.bl true)) (tCons (tC (.str "1")) tNil))))))) (tCall (SpD G.K (R__law_taken G)) [] E (tCons (tVar 1) (tCons (tC (.int 6)) tNil)))) (gName 12))
    (tSeq (tIfS (tOr (tTest (tOp (rNeD G.K) (tCall (SpD G.K (R__law_refused_k04 G)) [] E (tCons (tVar 5) (tCons (tVar 12) (tCons (tVar 12) (tCons (tUn (rU fun i => .int (-i)) (tC (.int 1))) tNil))))) (tLst (tCons (tC (.str "run")) (tCons (tVar 12) tNil))))) (tTest (tOp (rNeD G.K) (tCall (SpD G.K (R__law_refused_k04 G)) [] E (tCons (tVar 5) (tCons (tVar 7) (tCons (tVar 12) (tCons (tUn (rU fun i => .int (-i)) (tC (.int 1))) tNil))))) (tLst (tCons (tC (.str "run")) (tCons (tVar 12) tNil)))))) (tRet (tC (.bl false))) tNext)
    (tSeq (tAsg (tOp (rIxL G.K) (tLst (tCons (tUn (rU fun i => .int (-i)) (tC (.int 1))) (tCons (tC (.int 201)) (tCons (tC .non) (tCons (tC (.bl true)) (tCons (tC (.str "1")) tNil)))))) (tCall (SpD G.K (R__law_taken G)) [] E (tCons (tVar 1) (tCons (tC (.int 5)) tNil)))) (gName 12))
    (tRet (tOp (rEqD G.K) (tCall (SpD G.K (R__law_refused_k04 G)) [] E (tCons (tVar 5) (tCons (tVar 7) (tCons (tVar 8) (tCons (tVar 12) tNil))))) (tLst (tCons (tC (.str "count")) (tCons (tVar 12) tNil))))))))))))))))
end RA
set_option Elab.async false
set_option linter.all false
set_option maxRecDepth 100000
set_option maxHeartbeats 4000000
/-! The defs' readings (printed by gen.py). -/
namespace RA
open PySem PySem.Spec PyProof.Rows L2 Evl
/-- _law_next: 0 _law_j, 1 _law_k, 2 _law_state, 3 _law_up, 4 _law_down -/
def n__law_next : List Str := ["_law_j", "_law_k", "_law_state", "_law_up", "_law_down"]
def t__law_next (G : Gam) (E : XK) : TS :=
  (tSeq (tAsg (tIf (tTest (tOp (rI0 fun i j => .bl (decide (j < i))) (tVar 2) (tC (.int 0)))) (tOp (rI0 fun i j => .int (i + j)) (tVar 2) (tC (.int 1))) (tC (.int 1))) (gName 3))
    (tSeq (tAsg (tIf (tTest (tOp (rI0 fun i j => .bl (decide (i < j))) (tVar 2) (tC (.int 0)))) (tOp (rI0 fun i j => .int (i - j)) (tVar 2) (tC (.int 1))) (tOp (rI0 fun i j => .int (i - j)) (tC (.int 0)) (tC (.int 1)))) (gName 4))
    (tRet (tLst (tCons (tIf (tTest (tOp rEq (tVar 3) (tVar 0))) (tC (.int 100)) (tVar 3)) (tCons (tIf (tTest (tOp rEq (tVar 4) (tOp (rI0 fun i j => .int (i - j)) (tC (.int 0)) (tVar 1)))) (tOp (rI0 fun i j => .int (i - j)) (tC (.int 0)) (tC (.int 100))) (tVar 4)) tNil))))))
/-- _law_refused: 0 _law_coin, 1 _law_j, 2 _law_k, 3 _law_state, 4 _law_told, 5 e -/
def tb0__law_refused_k03 (G : Gam) (E2 : XK) : TS :=
  (tDrop (tCall (SpD G.K (R_mean G)) [] E2 (tCons (tVar 0) (tCons (tVar 1) (tCons (tVar 2) (tCons (tVar 3) tNil))))))
def n__law_refused_k03 : List Str := ["_law_coin", "_law_j", "_law_k", "_law_state", "_law_told", "e"]
def t__law_refused_k03 (G : Gam) (E : XK) : TS :=
  (tSeq (tAsg (tC .non) (gName 4))
    (tSeq (tTry G.K (fun cls d _ H => E cls d H) [((Value.ref G.cBadRun), (some 5), fun a cls d => (tAsg (tLst (tCons (tC (.str "run")) (tCons (tXf a cls d G.cBadRun "value" (tVar 5)) tNil))) (gName 4))), ((Value.ref G.cBadState), none, fun a cls d => (tAsg (tC (.str "state")) (gName 4)))] (fun W => tb0__law_refused_k03 G (EW 6 W)))
    (tRet (tVar 4))))
/-- law: 0 _law_script, 1 _law_row, 2 _law_d, 3 _law_runs_here, 4 _law_coin, 5 _law_shares_here, 6 _law_j, 7 _law_k, 8 _law_told, 9 _law_state, 10 _law_up, 11 _law_down, 12 _law_due, 13 _law_bad -/
def n_law_k03 : List Str := ["_law_script", "_law_row", "_law_d", "_law_runs_here", "_law_coin", "_law_shares_here", "_law_j", "_law_k", "_law_told", "_law_state", "_law_up", "_law_down", "_law_due", "_law_bad"]
def t_law_k03 (G : Gam) (E : XK) : TS :=
  (tSeq (tAsg (tLst (tCons (tVar 0) (tCons (tC (.int 0)) (tCons (tC (.int 223)) (tCons (tC (.int 0)) tNil))))) (gName 1))
    (tSeq (tPar 2 3 (tCons (tCall (SpD G.K (R__law_drawn G)) [] E (tCons (tVar 1) tNil)) (tCons (tCall (SpD G.K (R__law_runs G)) [] E (tCons (tVar 1) (tCons (tC (.int 30)) tNil))) tNil)))
    (tSeq (tPar 4 5 (tCons (tMake G.cCoin (SpD G.K (R_Coin_init G)) [] E (tCons (tOp (rIxT G.K) (tVar 2) (tC (.int 0))) (tCons (tOp (rIxT G.K) (tVar 2) (tC (.int 1))) tNil))) (tCons (tCall (SpD G.K (R__law_shares G)) [] E (tCons (tVar 2) tNil)) tNil)))
    (tSeq (tAsg (tVar 3) (gLst G.K 2 (gCons (gName 6) (gCons (gName 7) gNil))))
    (tSeq (tAsg (tDisp [((tC (.int 100)), (tTup (tCons (tC (.int 0)) (tCons (tC (.int 1)) tNil)))), ((tOp (rI0 fun i j => .int (i - j)) (tC (.int 0)) (tC (.int 100))), (tTup (tCons (tC (.int 0)) (tCons (tC (.int 1)) tNil))))]) (gName 8))
    (tSeq (tFor (iRng2 (tCons (tOp (rI0 fun i j => .int (i - j)) (tC (.int 1)) (tVar 7)) (tCons (tVar 6) tNil))) (gName 9) (sDPut (tVar 8) (tVar 9) (tCall (SpD G.K (R_mean G)) [] E (tCons (tVar 4) (tCons (tVar 6) (tCons (tVar 7) (tCons (tVar 9) tNil)))))))
    (tSeq (tFor (iRng2 (tCons (tOp (rI0 fun i j => .int (i - j)) (tC (.int 1)) (tVar 7)) (tCons (tVar 6) tNil))) (gName 9) (tSeq (tAsg (tCall (SpD G.K (R__law_next G)) [] E (tCons (tVar 6) (tCons (tVar 7) (tCons (tVar 9) tNil)))) (gLst G.K 2 (gCons (gName 10) (gCons (gName 11) gNil))))
    (tSeq (tAsg (tCall (SpD G.K (R__law_sum G)) [] E (tCons (tCall (SpD G.K (R__law_times G)) [] E (tCons (tOp (rIxL G.K) (tVar 5) (tC (.int 0))) (tCons (tDGet (tVar 8) (tVar 10)) tNil))) (tCons (tCall (SpD G.K (R__law_times G)) [] E (tCons (tOp (rIxL G.K) (tVar 5) (tC (.int 1))) (tCons (tDGet (tVar 8) (tVar 11)) tNil))) tNil))) (gName 12))
    (tIfS (tTest (tOp (rNeD G.K) (tDGet (tVar 8) (tVar 9)) (tCall (SpD G.K (R__law_sum G)) [] E (tCons (tVar 12) (tCons (tTup (tCons (tC (.int 1)) (tCons (tC (.int 1)) tNil))) tNil))))) (tRet (tC (.bl false))) tNext))))
    (tSeq (tAsg (tOp (rIxL G.K) (tLst (tCons (tC (.int 0)) (tCons (tC (.int 41)) (tCons (tUn (rU fun i => .int (-i)) (tC (.int 1))) (tCons (tC .non) (tCons (tC (.bl true)) (tCons (tC (.str "1")) tNil))))))) (tCall (SpD G.K (R__law_taken G)) [] E (tCons (tVar 1) (tCons (tC (.int 6)) tNil)))) (gName 13))
    (tSeq (tIfS (tOr (tTest (tOp (rNeD G.K) (tCall (SpD G.K (R__law_refused_k03 G)) [] E (tCons (tVar 4) (tCons (tVar 13) (tCons (tVar 13) (tCons (tC (.int 99)) tNil))))) (tLst (tCons (tC (.str "run")) (tCons (tVar 13) tNil))))) (tTest (tOp (rNeD G.K) (tCall (SpD G.K (R__law_refused_k03 G)) [] E (tCons (tVar 4) (tCons (tVar 6) (tCons (tVar 13) (tCons (tC (.int 99)) tNil))))) (tLst (tCons (tC (.str "run")) (tCons (tVar 13) tNil)))))) (tRet (tC (.bl false))) tNext)
    (tSeq (tAsg (tOp (rIxL G.K) (tLst (tCons (tVar 6) (tCons (tOp (rI0 fun i j => .int (i - j)) (tC (.int 0)) (tVar 7)) (tCons (tC .non) (tCons (tC (.bl true)) (tCons (tC (.str "0")) tNil)))))) (tCall (SpD G.K (R__law_taken G)) [] E (tCons (tVar 1) (tCons (tC (.int 5)) tNil)))) (gName 13))
    (tRet (tOp (rEqD G.K) (tCall (SpD G.K (R__law_refused_k03 G)) [] E (tCons (tVar 4) (tCons (tVar 6) (tCons (tVar 7) (tCons (tVar 13) tNil))))) (tC (.str "state"))))))))))))))
end RA
set_option Elab.async false
set_option linter.all false
set_option maxRecDepth 100000
set_option maxHeartbeats 4000000
/-! The defs' readings (printed by gen.py). -/
namespace RA
open PySem PySem.Spec PyProof.Rows L2 Evl
/-- begun_means: 0 coin, 1 j, 2 k, 3 x, 4 y, 5 up, 6 down, 7 here, 8 there, 9 ends -/
def n_begun_means : List Str := ["coin", "j", "k", "x", "y", "up", "down", "here", "there", "ends"]
def t_begun_means (G : Gam) (E : XK) : TS :=
  (tSeq (tAsg (tCall (SpD G.K (R_powers G)) [] E (tCons (tVar 0) (tCons (tVar 1) (tCons (tVar 2) tNil)))) (gTup G.K 2 (gCons (gName 3) (gCons (gName 4) gNil))))
    (tSeq (tPar 5 6 (tCons (tCall (SpD G.K (R_less G)) [] E (tCons (tC (.ref G.vONE)) (tCons (tVar 3) tNil))) (tCons (tCall (SpD G.K (R_less G)) [] E (tCons (tC (.ref G.vONE)) (tCons (tVar 4) tNil))) tNil)))
    (tSeq (tPar 7 8 (tCons (tCall (SpD G.K (R_over G)) [] E (tCons (tVar 5) (tCons (tFld G.K (tVar 0) "behind") tNil))) (tCons (tCall (SpD G.K (R_over G)) [] E (tCons (tVar 6) (tCons (tFld G.K (tVar 0) "ahead") tNil))) tNil)))
    (tSeq (tAsg (tCall (SpD G.K (R_ends_of G)) [] E (tCons (tVar 3) (tCons (tVar 4) tNil))) (gName 9))
    (tRet (tTup (tCons (tCall (SpD G.K (R_over G)) [] E (tCons (tCall (SpD G.K (R_added G)) [] E (tCons (tVar 7) (tCons (tCall (SpD G.K (R_product G)) [] E (tCons (tVar 5) (tCons (tVar 8) tNil))) tNil))) (tCons (tVar 9) tNil))) (tCons (tCall (SpD G.K (R_over G)) [] E (tCons (tCall (SpD G.K (R_added G)) [] E (tCons (tVar 8) (tCons (tCall (SpD G.K (R_product G)) [] E (tCons (tVar 6) (tCons (tVar 7) tNil))) tNil))) (tCons (tVar 9) tNil))) tNil))))))))
/-- mean_by: 0 coin, 1 j, 2 k, 3 state, 4 head, 5 tail, 6 breaks -/
def n_mean_by : List Str := ["coin", "j", "k", "state", "head", "tail", "breaks"]
def t_mean_by (G : Gam) (E : XK) : TS :=
  (tSeq (tAsg (tCall (SpD G.K (R_begun_means G)) [] E (tCons (tVar 0) (tCons (tVar 1) (tCons (tVar 2) tNil)))) (gTup G.K 2 (gCons (gName 4) (gCons (gName 5) gNil))))
    (tSeq (tIfS (tTest (tOp rEq (tVar 3) (tC (.int 0)))) (tRet (tCall (SpD G.K (R_added G)) [] E (tCons (tC (.ref G.vONE)) (tCons (tCall (SpD G.K (R_added G)) [] E (tCons (tCall (SpD G.K (R_product G)) [] E (tCons (tFld G.K (tVar 0) "ahead") (tCons (tVar 4) tNil))) (tCons (tCall (SpD G.K (R_product G)) [] E (tCons (tFld G.K (tVar 0) "behind") (tCons (tVar 5) tNil))) tNil))) tNil)))) tNext)
    (tSeq (tIfS (tTest (tOp (rI0 fun i j => .bl (decide (j < i))) (tVar 3) (tC (.int 0)))) (tSeq (tAsg (tCall (SpD G.K (R_less G)) [] E (tCons (tC (.ref G.vONE)) (tCons (tCall (SpD G.K (R_raised G)) [] E (tCons (tFld G.K (tVar 0) "ahead") (tCons (tOp (rI0 fun i j => .int (i - j)) (tVar 1) (tVar 3)) tNil))) tNil))) (gName 6))
    (tRet (tCall (SpD G.K (R_added G)) [] E (tCons (tCall (SpD G.K (R_over G)) [] E (tCons (tVar 6) (tCons (tFld G.K (tVar 0) "behind") tNil))) (tCons (tCall (SpD G.K (R_product G)) [] E (tCons (tVar 6) (tCons (tVar 5) tNil))) tNil))))) tNext)
    (tSeq (tAsg (tCall (SpD G.K (R_less G)) [] E (tCons (tC (.ref G.vONE)) (tCons (tCall (SpD G.K (R_raised G)) [] E (tCons (tFld G.K (tVar 0) "behind") (tCons (tOp (rI0 fun i j => .int (i + j)) (tVar 2) (tVar 3)) tNil))) tNil))) (gName 6))
    (tRet (tCall (SpD G.K (R_added G)) [] E (tCons (tCall (SpD G.K (R_over G)) [] E (tCons (tVar 6) (tCons (tFld G.K (tVar 0) "ahead") tNil))) (tCons (tCall (SpD G.K (R_product G)) [] E (tCons (tVar 6) (tCons (tVar 4) tNil))) tNil))))))))
/-- mean: 0 coin, 1 j, 2 k, 3 state -/
def n_mean : List Str := ["coin", "j", "k", "state"]
def t_mean (G : Gam) (E : XK) : TS :=
  (tSeq (tDrop (tCall (SpD G.K (R_need_runs G)) [] E (tCons (tVar 1) (tCons (tVar 2) (tCons (tC (.int 40)) tNil)))))
    (tSeq (tDrop (tCall (SpD G.K (R_need_state G)) [] E (tCons (tVar 1) (tCons (tVar 2) (tCons (tVar 3) tNil)))))
    (tRet (tCall (SpD G.K (R_mean_by G)) [] E (tCons (tVar 0) (tCons (tVar 1) (tCons (tVar 2) (tCons (tVar 3) tNil))))))))
/-- mean_until: 0 share, 1 many, 2 whole -/
def n_mean_until : List Str := ["share", "many", "whole"]
def t_mean_until (G : Gam) (E : XK) : TS :=
  (tSeq (tAsg (tCall (SpD G.K (R_raised G)) [] E (tCons (tVar 0) (tCons (tVar 1) tNil))) (gName 2))
    (tRet (tCall (SpD G.K (R_over G)) [] E (tCons (tCall (SpD G.K (R_less G)) [] E (tCons (tC (.ref G.vONE)) (tCons (tVar 2) tNil))) (tCons (tCall (SpD G.K (R_product G)) [] E (tCons (tCall (SpD G.K (R_less G)) [] E (tCons (tC (.ref G.vONE)) (tCons (tVar 0) tNil))) (tCons (tVar 2) tNil))) tNil)))))
/-- mean_heads: 0 coin, 1 j -/
def n_mean_heads : List Str := ["coin", "j"]
def t_mean_heads (G : Gam) (E : XK) : TS :=
  (tSeq (tDrop (tCall (SpD G.K (R_need_run G)) [] E (tCons (tVar 1) (tCons (tC (.int 40)) tNil))))
    (tRet (tCall (SpD G.K (R_mean_until G)) [] E (tCons (tFld G.K (tVar 0) "ahead") (tCons (tVar 1) tNil)))))
/-- mean_both: 0 coin, 1 j, 2 k -/
def n_mean_both : List Str := ["coin", "j", "k"]
def t_mean_both (G : Gam) (E : XK) : TS :=
  (tSeq (tDrop (tCall (SpD G.K (R_need_runs G)) [] E (tCons (tVar 1) (tCons (tVar 2) (tCons (tC (.int 40)) tNil)))))
    (tRet (tCall (SpD G.K (R_less G)) [] E (tCons (tCall (SpD G.K (R_added G)) [] E (tCons (tCall (SpD G.K (R_mean_until G)) [] E (tCons (tFld G.K (tVar 0) "ahead") (tCons (tVar 1) tNil))) (tCons (tCall (SpD G.K (R_mean_until G)) [] E (tCons (tFld G.K (tVar 0) "behind") (tCons (tVar 2) tNil))) tNil))) (tCons (tCall (SpD G.K (R_mean_by G)) [] E (tCons (tVar 0) (tCons (tVar 1) (tCons (tVar 2) (tCons (tC (.int 0)) tNil))))) tNil)))))
end RA
set_option Elab.async false
set_option linter.all false
set_option maxRecDepth 100000
set_option maxHeartbeats 4000000
/-! means -/
namespace RA
open PySem PySem.Spec PyProof.Rows L2 Evl
/-! the walk over a reading -/
local macro_rules | `(tactic| walk_at "ra1") => `(tactic| first
  | exact ev_int
  | exact ev_bl
  | exact ev_non
  | exact ev_str
  | exact ev_ty
  | exact ev_ref
  | (refine ev_var ?_; rfl)
  | exact ea_nil
  | apply ea_cons
  | apply ev_opI0
  | apply ev_opB0
  | apply ev_opI
  | refine ev_neg ?_
  | apply ev_ixT
  | (show atI _ _ = some _; rfl)
  | refine ev_tup ?_ (by first | decide | simp)
  | apply ev_cb
  | apply ev_call
  | refine et_test ?_
  | refine et_B ?_
  | refine et_not ?_
  | exact et_yes)
local macro_rules | `(tactic| walk_at "ra") => `(tactic| repeat' (walk_at "ra1"))
variable {G : Gam} {ds : List D} {ts : TSt} {m : Mem} {P : Oc → Prop} {E : XK} {tl : TA}
theorem pne {u d : Int} (hu : Share u) (hd : Share d) : pOf u d ≠ 0 := by have := pOf_pos hu hd; grind
theorem p_begun_means (T : CoinOk G) (C : ConsOk G) (h : R_begun_means G ds m P) : ExS G.K E (t_begun_means G E) (startT n_begun_means ds) m (Fin P) := by
  obtain ⟨u, d, j, k, rfl, hu, hd, hj, hk, h⟩ := h
  show ExS G.K E (t_begun_means G E) [some (coinD G u d), some (.int j), some (.int k), none, none, none, none, none, none, none] m (Fin P)
  have x := pw_x hu hd hj hk
  have y := pw_x hd hu hk hj
  have en := ends_ne hu hd hj hk
  have es := sz_endsX hu hd hj hk
  have h1 := sz_here hu hd hj hk
  have h2 := sz_here hd hu hk hj
  have pu := sz_pOf hu hd
  have pd := sz_pOf hd hu
  have n1 := pne hu hd
  have n2 := pne hd hu
  unfold headM tailM at h
  unfold hereR at *
  refine s_seq (s_asgGP ((e_powers (by walk_at "ra") hu hd hj hk).p ⟨_, _, gt_two, ?_⟩))
  generalize pOf u d ^ (j - 1).toNat = X at *
  generalize pOf d u ^ (k - 1).toNat = Y at *
  show ExS G.K E _ [some (coinD G u d), some (.int j), some (.int k), some (frD X), some (frD Y), none, none, none, none, none] m (Fin P)
  have uS := sz_one.sub x.1
  have dS := sz_one.sub y.1
  refine s_seq (s_par (d1 := frD (1 - X)) (d2 := frD (1 - Y)) (ea_cons (e_less (ea_cons (ev_ONE C) (by walk_at "ra")) sz_one x.1) (ea_cons (e_less (ea_cons (ev_ONE C) (by walk_at "ra")) sz_one y.1) ea_nil)) ?_)
  show ExS G.K E _ [some (coinD G u d), some (.int j), some (.int k), some (frD X), some (frD Y), some (frD (1 - X)), some (frD (1 - Y)), none, none, none] m (Fin P)
  refine s_seq (s_par (d1 := frD ((1 - X) / pOf d u)) (d2 := frD ((1 - Y) / pOf u d)) (ea_cons (e_over (ea_cons (ev_var rfl) (ea_cons (e_behind T (ev_var rfl)) ea_nil)) uS pd n2) (ea_cons (e_over (ea_cons (ev_var rfl) (ea_cons (e_ahead T (ev_var rfl)) ea_nil)) dS pu n1) ea_nil)) ?_)
  show ExS G.K E _ [some (coinD G u d), some (.int j), some (.int k), some (frD X), some (frD Y), some (frD (1 - X)), some (frD (1 - Y)), some (frD ((1 - X) / pOf d u)), some (frD ((1 - Y) / pOf u d)), none] m (Fin P)
  refine s_seq (s_asg (d := frD (endsR X Y)) (e_ends (by walk_at "ra") x.1 y.1) ?_)
  show ExS G.K E _ [some (coinD G u d), some (.int j), some (.int k), some (frD X), some (frD Y), some (frD (1 - X)), some (frD (1 - Y)), some (frD ((1 - X) / pOf d u)), some (frD ((1 - Y) / pOf u d)), some (frD (endsR X Y))] m (Fin P)
  refine s_ret (ev_tup (ea_cons (e_over (ea_cons (e_added (ea_cons (ev_var rfl) (ea_cons (e_product (by walk_at "ra") uS h2) ea_nil)) h1 (uS.mul h2)) (ea_cons (ev_var rfl) ea_nil)) (h1.add (uS.mul h2)) es en)
    (ea_cons (e_over (ea_cons (e_added (ea_cons (ev_var rfl) (ea_cons (e_product (by walk_at "ra") dS h1) ea_nil)) h2 (dS.mul h1)) (ea_cons (ev_var rfl) ea_nil)) (h2.add (dS.mul h1)) es en) ea_nil)) (by simp)) h
theorem e_begunM {u d j k : Int} (h : EvL G.K tl ts m [coinD G u d, .int j, .int k]) (hu : Share u) (hd : Share d) (hj : Run j) (hk : Run k) : EvD G.K (tCall (SpD G.K (R_begun_means G)) [] E tl) ts m (.tup [frD (headM (pOf u d) (pOf d u) j k), frD (tailM (pOf u d) (pOf d u) j k)]) :=
  ev_call h ⟨u, d, j, k, rfl, hu, hd, hj, hk, rfl, rfl⟩
theorem p_mean_by (T : CoinOk G) (C : ConsOk G) (h : R_mean_by G ds m P) : ExS G.K E (t_mean_by G E) (startT n_mean_by ds) m (Fin P) := by
  obtain ⟨u, d, j, k, s, rfl, hu, hd, hj, hk, h1, h2, h⟩ := h
  show ExS G.K E (t_mean_by G E) [some (coinD G u d), some (.int j), some (.int k), some (.int s), none, none, none] m (Fin P)
  have sh := sz_headM hu hd hj hk
  have st := sz_tailM hu hd hj hk
  have pu := sz_pOf hu hd
  have pd := sz_pOf hd hu
  have n1 := pne hu hd
  have n2 := pne hd hu
  unfold meanR at h
  have hj' := hj
  have hk' := hk
  unfold Run at hj' hk'
  refine s_seq (s_asgGP ((e_begunM (by walk_at "ra") hu hd hj hk).p ⟨_, _, gt_two, ?_⟩))
  show ExS G.K E _ [some (coinD G u d), some (.int j), some (.int k), some (.int s), some (frD (headM (pOf u d) (pOf d u) j k)), some (frD (tailM (pOf u d) (pOf d u) j k)), none] m (Fin P)
  refine s_seq (s_if (b := decide (s = 0)) (et_test (ev_eq (d1 := .int s) (d2 := .int 0) (by walk_at "ra") ev_int rfl)) (fun c => ?_) (fun c => ?_))
  · rw [if_pos (of_decide_eq_true c)] at h
    exact s_ret (e_added (ea_cons (ev_ONE C) (ea_cons (e_added (ea_cons (e_product (ea_cons (e_ahead T (ev_var rfl)) (by walk_at "ra")) pu sh) (ea_cons (e_product (ea_cons (e_behind T (ev_var rfl)) (by walk_at "ra")) pd st) ea_nil)) (pu.mul sh) (pd.mul st)) ea_nil)) sz_one ((pu.mul sh).add (pd.mul st))) h
  have c0 : ¬ s = 0 := of_decide_eq_false c
  rw [if_neg c0] at h
  refine s_next ?_
  refine s_seq (s_if (b := decide (0 < s)) (by walk_at "ra") (fun c => ?_) (fun c => ?_))
  · have c1 : 0 < s := of_decide_eq_true c
    rw [if_pos c1] at h
    have w := Sz.pw hu hd (i := j - s) (by omega) (by omega)
    have b := sz_one.sub w
    refine s_seq (s_asg (d := frD (1 - pOf u d ^ (j - s).toNat)) (e_less (ea_cons (ev_ONE C) (ea_cons (e_raised (ea_cons (e_ahead T (ev_var rfl)) (by walk_at "ra")) pu (by omega) (by omega)) ea_nil)) sz_one w) ?_)
    show ExS G.K E _ [some (coinD G u d), some (.int j), some (.int k), some (.int s), some (frD (headM (pOf u d) (pOf d u) j k)), some (frD (tailM (pOf u d) (pOf d u) j k)), some (frD (1 - pOf u d ^ (j - s).toNat))] m _
    refine s_ret (e_added (ea_cons (e_over (ea_cons (ev_var rfl) (ea_cons (e_behind T (ev_var rfl)) ea_nil)) b pd n2) (ea_cons (e_product (by walk_at "ra") b st) ea_nil)) (b.div pd n2) (b.mul st)) h
  · have c1 : ¬ 0 < s := of_decide_eq_false c
    rw [if_neg c1] at h
    refine s_next ?_
    have w := Sz.pw hd hu (i := k + s) (by omega) (by omega)
    have b := sz_one.sub w
    refine s_seq (s_asg (d := frD (1 - pOf d u ^ (k + s).toNat)) (e_less (ea_cons (ev_ONE C) (ea_cons (e_raised (ea_cons (e_behind T (ev_var rfl)) (by walk_at "ra")) pd (by omega) (by omega)) ea_nil)) sz_one w) ?_)
    show ExS G.K E _ [some (coinD G u d), some (.int j), some (.int k), some (.int s), some (frD (headM (pOf u d) (pOf d u) j k)), some (frD (tailM (pOf u d) (pOf d u) j k)), some (frD (1 - pOf d u ^ (k + s).toNat))] m _
    refine s_ret (e_added (ea_cons (e_over (ea_cons (ev_var rfl) (ea_cons (e_ahead T (ev_var rfl)) ea_nil)) b pu n1) (ea_cons (e_product (by walk_at "ra") b sh) ea_nil)) (b.div pu n1) (b.mul sh)) h
theorem p_mean (h : R_mean G ds m P) : ExS G.K E (t_mean G E) (startT n_mean ds) m (Fin P) := by
  obtain ⟨u, d, j, k, s, rfl, hu, hd, fj, fk, fs, h⟩ := h
  show ExS G.K E (t_mean G E) [some (coinD G u d), some j, some k, some s] m (Fin P)
  refine s_need_runs (d := j) (e := k) (most := 40) (o := stateOc G (intD j) (intD k) s m (.rt (frD (meanR (pOf u d) (pOf d u) (intD j) (intD k) (intD s))) m)) (by walk_at "ra") fj fk
    (fin_run h fun h => fin_run h fun h => fin_state h id) (fun cj ck h => ?_)
  obtain ⟨ej, j1, j2⟩ := within_int cj
  obtain ⟨ek, k1, k2⟩ := within_int ck
  rw [ej, ek] at *
  show ExS G.K E _ [some (coinD G u d), some (.int (intD j)), some (.int (intD k)), some s] m (Fin P)
  refine s_need_state (d := s) (j := intD j) (k := intD k) (by walk_at "ra") fs h (fun cs h => ?_)
  obtain ⟨es, s1, s2⟩ := within_int cs
  rw [es]
  refine s_ret (ev_call (by walk_at "ra") ⟨u, d, intD j, intD k, intD s, rfl, hu, hd, ⟨j1, j2⟩, ⟨k1, k2⟩, s1, s2, rfl, rfl⟩) h
theorem p_mean_until (C : ConsOk G) (h : R_mean_until G ds m P) : ExS G.K E (t_mean_until G E) (startT n_mean_until ds) m (Fin P) := by
  obtain ⟨p, n, rfl, hp, h0, h1, hn, hn2, h⟩ := h
  show ExS G.K E (t_mean_until G E) [some (frD p), some (.int n), none] m (Fin P)
  unfold untilR at h
  have w : Sz 1001 (p ^ n.toNat) := (Sz.pow hp (by decide) n.toNat).mono (by omega)
  have wp := pow_pos' h0 n.toNat
  have o := sz_one.sub hp
  refine s_seq (s_asg (d := frD (p ^ n.toNat)) (e_raised (by walk_at "ra") hp hn (by omega)) ?_)
  show ExS G.K E _ [some (frD p), some (.int n), some (frD (p ^ n.toNat))] m (Fin P)
  refine s_ret (e_over (ea_cons (e_less (ea_cons (ev_ONE C) (by walk_at "ra")) sz_one w) (ea_cons (e_product (ea_cons (e_less (ea_cons (ev_ONE C) (by walk_at "ra")) sz_one hp) (by walk_at "ra")) o w) ea_nil)) (sz_one.sub w) (o.mul w) ?_) h
  have : 0 < (1 - p) * p ^ n.toNat := Rat.mul_pos (by grind) wp
  grind
theorem e_until {p : Rat} {n : Int} (h : EvL G.K tl ts m [frD p, .int n]) (hp : Sz 5 p) (h0 : 0 < p) (h1 : p < 1) (hn : 0 ≤ n) (hn2 : n ≤ 200) : EvD G.K (tCall (SpD G.K (R_mean_until G)) [] E tl) ts m (frD (untilR p n)) :=
  ev_call h ⟨p, n, rfl, hp, h0, h1, hn, hn2, rfl, rfl⟩
theorem s_need_run {t : TS} {PO : Oc → Prop} {d : D} {most : Int} (ha : EvL G.K tl ts m [d, .int most]) (hd : Flat d) {o : Oc} (hP : PO (runOc G d most m o))
    (hg : withinD d 1 most = true → PO o → ExS G.K E t ts m PO) : ExS G.K E (tSeq (tDrop (tCall (SpD G.K (R_need_run G)) [] E tl)) t) ts m PO := by
  refine s_seq (s_dropX (ev_callX (ha.p ⟨d, most, rfl, hd, ?_⟩)))
  unfold runOc at hP ⊢
  cases c : withinD d 1 most with
  | false =>
    rw [c] at hP
    exact hP
  | true =>
    rw [c] at hP
    exact hg c hP
theorem p_mean_heads (T : CoinOk G) (h : R_mean_heads G ds m P) : ExS G.K E (t_mean_heads G E) (startT n_mean_heads ds) m (Fin P) := by
  obtain ⟨u, d, j, rfl, hu, hd, fj, h⟩ := h
  show ExS G.K E (t_mean_heads G E) [some (coinD G u d), some j] m (Fin P)
  refine s_need_run (d := j) (most := 40) (o := .rt (frD (untilR (pOf u d) (intD j))) m) (by walk_at "ra") fj (fin_run h id) (fun cj h => ?_)
  obtain ⟨ej, j1, j2⟩ := within_int cj
  rw [ej]
  exact s_ret (e_until (ea_cons (e_ahead T (ev_var rfl)) (by walk_at "ra")) (sz_pOf hu hd) (pOf_pos hu hd) (pOf_lt hu hd) (by omega) (by omega)) h
theorem p_mean_both (T : CoinOk G) (h : R_mean_both G ds m P) : ExS G.K E (t_mean_both G E) (startT n_mean_both ds) m (Fin P) := by
  obtain ⟨u, d, j, k, rfl, hu, hd, fj, fk, h⟩ := h
  show ExS G.K E (t_mean_both G E) [some (coinD G u d), some j, some k] m (Fin P)
  refine s_need_runs (d := j) (e := k) (most := 40) (o := .rt (frD (untilR (pOf u d) (intD j) + untilR (pOf d u) (intD k) - meanR (pOf u d) (pOf d u) (intD j) (intD k) 0)) m) (by walk_at "ra") fj fk (fin_run h fun h => fin_run h id) (fun cj ck h => ?_)
  obtain ⟨ej, j1, j2⟩ := within_int cj
  obtain ⟨ek, k1, k2⟩ := within_int ck
  rw [ej, ek]
  have s1 : Sz 412 (untilR (pOf u d) (intD j)) := sz_until (l := 40) (sz_pOf hu hd) (pOf_pos hu hd) (pOf_lt hu hd) (by omega) (by omega)
  have s2 : Sz 412 (untilR (pOf d u) (intD k)) := sz_until (l := 40) (sz_pOf hd hu) (pOf_pos hd hu) (pOf_lt hd hu) (by omega) (by omega)
  have s3 := sz_mean (s := 0) hu hd (j := intD j) (k := intD k) ⟨j1, j2⟩ ⟨k1, k2⟩ (by omega) (by omega)
  exact s_ret (e_less (ea_cons (e_added (ea_cons (e_until (ea_cons (e_ahead T (ev_var rfl)) (by walk_at "ra")) (sz_pOf hu hd) (pOf_pos hu hd) (pOf_lt hu hd) (by omega) (by omega)) (ea_cons (e_until (ea_cons (e_behind T (ev_var rfl)) (by walk_at "ra")) (sz_pOf hd hu) (pOf_pos hd hu) (pOf_lt hd hu) (by omega) (by omega)) ea_nil)) s1 s2)
    (ea_cons (ev_call (by walk_at "ra") ⟨u, d, intD j, intD k, 0, rfl, hu, hd, ⟨j1, j2⟩, ⟨k1, k2⟩, by omega, by omega, rfl, rfl⟩) ea_nil)) (s1.add s2) s3) h
end RA
set_option Elab.async false
set_option linter.all false
set_option maxRecDepth 100000
set_option maxHeartbeats 1000000
namespace RA
open PySem PySem.Spec PyProof.Rows L2 Evl
/-! the walk over a reading -/
local macro_rules | `(tactic| walk_at "ra1") => `(tactic| first
  | exact ev_int
  | exact ev_bl
  | exact ev_non
  | exact ev_str
  | exact ev_ty
  | exact ev_ref
  | (refine ev_var ?_; rfl)
  | exact ea_nil
  | apply ea_cons
  | apply ev_opI0
  | apply ev_opB0
  | apply ev_opI
  | refine ev_neg ?_
  | apply ev_ixT
  | (show atI _ _ = some _; rfl)
  | refine ev_tup ?_ (by first | decide | simp)
  | apply ev_cb
  | apply ev_call
  | refine et_test ?_
  | refine et_B ?_
  | refine et_not ?_
  | exact et_yes)
local macro_rules | `(tactic| walk_at "ra") => `(tactic| repeat' (walk_at "ra1"))
variable {G : Gam} {ds : List D} {ts : TSt} {m : Mem} {P : Oc → Prop} {E : XK} {tl : TA}
theorem p__law_next (h : R__law_next G ds m P) : ExS G.K E (t__law_next G E) (startT n__law_next ds) m (Fin P) := by
  obtain ⟨j, k, s, rfl, h⟩ := h
  show ExS G.K E (t__law_next G E) [some (.int j), some (.int k), some (.int s), none, none] m (Fin P)
  refine s_seq (s_asg (d := .int (if 0 < s then s + 1 else 1)) (ev_if (b := decide (0 < s)) (by walk_at "ra") (fun c => EvD.is (d := .int (s + 1)) (by walk_at "ra") (by rw [if_pos (of_decide_eq_true c)])) (fun c => EvD.is (d := .int 1) (by walk_at "ra") (by rw [if_neg (of_decide_eq_false c)]))) ?_)
  generalize hu : (if 0 < s then s + 1 else 1) = u
  show ExS G.K E _ [some (.int j), some (.int k), some (.int s), some (.int u), none] m (Fin P)
  refine s_seq (s_asg (d := .int (if s < 0 then s - 1 else -1)) (ev_if (b := decide (s < 0)) (by walk_at "ra") (fun c => EvD.is (d := .int (s - 1)) (by walk_at "ra") (by rw [if_pos (of_decide_eq_true c)])) (fun c => EvD.is (d := .int (0 - 1)) (by walk_at "ra") (by rw [if_neg (of_decide_eq_false c)]; rfl))) ?_)
  generalize hd : (if s < 0 then s - 1 else -1) = v
  show ExS G.K E _ [some (.int j), some (.int k), some (.int s), some (.int u), some (.int v)] m (Fin P)
  have eu : upS j s = if u = j then 100 else u := by unfold upS; rw [hu]
  have ev : downS k s = if v = 0 - k then 0 - 100 else v := by unfold downS; rw [hd, show (0 : Int) - k = -k from Int.zero_sub k]; rfl
  rw [eu, ev] at h
  refine s_ret (ev_lst (ea_cons (ev_if (b := decide (u = j)) (et_test (ev_eq (d1 := .int u) (d2 := .int j) (by walk_at "ra") (by walk_at "ra") rfl)) (fun c => EvD.is (d := .int 100) (by walk_at "ra") (by rw [if_pos (of_decide_eq_true c)])) (fun c => EvD.is (d := .int u) (by walk_at "ra") (by rw [if_neg (of_decide_eq_false c)])))
    (ea_cons (ev_if (b := decide (v = 0 - k)) (et_test (ev_eq (d1 := .int v) (d2 := .int (0 - k)) (by walk_at "ra") (by walk_at "ra") rfl)) (fun c => EvD.is (d := .int (0 - 100)) (by walk_at "ra") (by rw [if_pos (of_decide_eq_true c)])) (fun c => EvD.is (d := .int v) (by walk_at "ra") (by rw [if_neg (of_decide_eq_false c)]))) ea_nil)) (by simp)) h
structure XRun (G : Gam) : Prop where
  rr : PySem.W.exmOne G.K (.ref G.cBadRun) (.ref G.cBadRun) = some true
  ss : PySem.W.exmOne G.K (.ref G.cBadState) (.ref G.cBadState) = some true
  sr : PySem.W.exmOne G.K (.ref G.cBadState) (.ref G.cBadRun) = some false
theorem p__law_refused_k03 (X : XRun G) (h : R__law_refused_k03 G ds m P) : ExS G.K E (t__law_refused_k03 G E) (startT n__law_refused_k03 ds) m (Fin P) := by
  obtain ⟨u, d, j, k, s, rfl, hu, hd, fj, fk, fs, p⟩ := h
  show ExS G.K E (t__law_refused_k03 G E) [some (coinD G u d), some j, some k, some s, none, none] m (Fin P)
  refine s_seq (s_asg (d := .non) (by walk_at "ra") ?_)
  show ExS G.K E _ [some (coinD G u d), some j, some k, some s, some .non, none] m (Fin P)
  refine s_seq (s_tryE (tb := tb0__law_refused_k03 G) (fun _ _ _ _ h => h) fun E' => s_dropX (ev_callX (EvL.p (ds := [coinD G u d, j, k, s]) (by walk_at "ra") ⟨u, d, j, k, s, rfl, hu, hd, fj, fk, fs, ?_⟩)))
  cases cj : withinD j 1 40 with
  | false =>
    rw [runTold_no cj] at p
    rw [runOc_no cj]
    exact catch_val X.rr (fun _ => rfl) (fun _ _ => rfl) (s_ret (ev_var rfl) p)
  | true =>
    rw [runTold_ok cj] at p
    rw [runOc_ok cj]
    cases ck : withinD k 1 40 with
    | false =>
      rw [runTold_no ck] at p
      rw [runOc_no ck]
      exact catch_val X.rr (fun _ => rfl) (fun _ _ => rfl) (s_ret (ev_var rfl) p)
    | true =>
      rw [runTold_ok ck] at p
      rw [runOc_ok ck]
      cases cs : withinD s (1 - intD k) (intD j - 1) with
      | false =>
        rw [stateTold_no cs] at p
        rw [stateOc_no cs]
        exact catch_skip X.sr (catch_con X.ss (fun _ => .str _) (s_ret (ev_var rfl) p))
      | true =>
        rw [stateTold_ok cs] at p
        rw [stateOc_ok cs]
        exact s_ret (d := .non) (by walk_at "ra") p
def badL6 : List D := [.int 0, .int 41, .int (-1), .non, .bl true, .str "1"]
theorem bad6 {x : Int} (h0 : 0 ≤ x) (h : x < 6) : ∃ b, atI badL6 x = some b ∧ Odd b ∧ withinD b 1 40 = false := by
  rcases (by omega : x = 0 ∨ x = 1 ∨ x = 2 ∨ x = 3 ∨ x = 4 ∨ x = 5) with rfl | rfl | rfl | rfl | rfl | rfl
  · exact ⟨_, rfl, odd_int _, rfl⟩
  · exact ⟨_, rfl, odd_int _, rfl⟩
  · exact ⟨_, rfl, odd_int _, rfl⟩
  · exact ⟨_, rfl, odd_non, rfl⟩
  · exact ⟨_, rfl, odd_bl _, rfl⟩
  · exact ⟨_, rfl, odd_str _, rfl⟩
def badS (j k : Int) : List D := [.int j, .int (0 - k), .non, .bl true, .str "0"]
theorem bad_s {x j k : Int} (h0 : 0 ≤ x) (h : x < 5) : ∃ b, atI (badS j k) x = some b ∧ Flat b ∧ withinD b (1 - k) (j - 1) = false := by
  rcases (by omega : x = 0 ∨ x = 1 ∨ x = 2 ∨ x = 3 ∨ x = 4) with rfl | rfl | rfl | rfl | rfl
  · exact ⟨_, rfl, rfl, by simp only [withinD, Bool.and_eq_false_iff, decide_eq_false_iff_not]; omega⟩
  · exact ⟨_, rfl, rfl, by simp only [withinD, Bool.and_eq_false_iff, decide_eq_false_iff_not]; omega⟩
  · exact ⟨_, rfl, rfl, rfl⟩
  · exact ⟨_, rfl, rfl, rfl⟩
  · exact ⟨_, rfl, rfl, rfl⟩
theorem upS_raw {j s : Int} : upS j s = if rawU s = j then 100 else rawU s := rfl
theorem downS_raw {k s : Int} : downS k s = if rawD s = -k then -100 else rawD s := rfl
/-- what the law's dict holds so far -/
def Holds (kvs : List (Key × D)) (z w : Rat) (f : Int → Rat) (lo : Int) (n : Nat) : Prop :=
  valD kvs (.inl 100) = some (frD z) ∧ valD kvs (.inl (-100)) = some (frD w) ∧ ∀ i : Nat, i < n → valD kvs (.inl (lo + i)) = some (frD (f (lo + i)))
theorem holds_put {kvs : List (Key × D)} {z w : Rat} {f : Int → Rat} {lo : Int} {n : Nat} (h : Holds kvs z w f lo n) (h1 : lo + n < 100) (h2 : -100 < lo) : Holds (putKD kvs (.inl (lo + n)) (frD (f (lo + n)))) z w f lo (n + 1) := by
  obtain ⟨a, b, c⟩ := h
  refine ⟨?_, ?_, fun i hi => ?_⟩
  · rw [valD_put, if_neg (by simp only [Sum.inl.injEq]; omega)]; exact a
  · rw [valD_put, if_neg (by simp only [Sum.inl.injEq]; omega)]; exact b
  · rw [valD_put]
    by_cases e : i = n
    · subst e; rw [if_pos rfl]
    · rw [if_neg (by simp only [Sum.inl.injEq]; omega)]; exact c i (by omega)
theorem rngD_at {lo hi : Int} {i : Nat} {d : D} (h : (rngD lo hi)[i]? = some d) : d = .int (lo + i) ∧ lo + i < hi := by
  unfold rngD at h
  rw [List.getElem?_map] at h
  cases q : (List.range (hi - lo).toNat)[i]? with
  | none => rw [q] at h; cases h
  | some a =>
    rw [q] at h
    have e := List.getElem?_eq_some_iff.mp q
    obtain ⟨l, e⟩ := e
    rw [List.getElem_range] at e
    rw [List.length_range] at l
    subst e
    simp only [Option.map_some, Option.some.injEq] at h
    exact ⟨h.symm, by omega⟩
theorem p_law_k03 (h : R_law G ds m P) : ExS G.K E (t_law_k03 G E) (startT n_law_k03 ds) m (Fin P) := by
  obtain ⟨ns, rfl, rfl, hn, p⟩ := h
  show ExS G.K E (t_law_k03 G E) [some (.lst (ns.map .int)), none, none, none, none, none, none, none, none, none, none, none, none, none] [] (Fin P)
  refine s_seq (s_asgP (ev_lstM (EvL.p (ds := [.lst (ns.map .int), .int 0, .int 223, .int 0]) (by walk_at "ra") ⟨by simp, fun l _ => ?_⟩)))
  show ExS G.K E _ [some (.lst (ns.map .int)), some (.ref l), none, none, none, none, none, none, none, none, none, none, none, none] [(l, rowD ns 0 223 0)] (Fin P)
  refine s_seq (s_parP (ea_consP (ev_callP (EvL.p (ds := [.ref l]) (by walk_at "ra") ⟨l, rfl, 0, _, rfl, row0 hn (by decide), fun u d r1 hab hr1 => ?_⟩))))
  refine ea_consP (ev_callP (EvL.p (ds := [.ref l, .int 30]) (by walk_at "ra") ⟨l, 30, rfl, by decide, by decide, 0, r1, rfl, hr1, fun j k r2 j1 j2 k1 k2 hr2 => ?_⟩))
  refine ea_nilP ⟨_, _, rfl, ?_⟩
  obtain ⟨su, sd⟩ := drawn_share hab
  have rj : Run j := ⟨j1, by omega⟩
  have rk : Run k := ⟨k1, by omega⟩
  have ps := pOf_sum su sd
  have zp := sz_pOf su sd
  have zq := sz_pOf sd su
  show ExS G.K E _ [some (.lst (ns.map .int)), some (.ref l), some (.tup [.int u, .int d]), some (.lst [.int j, .int k]), none, none, none, none, none, none, none, none, none, none] [(l, r2)] _
  refine s_seq (s_par (d1 := coinD G u d) (d2 := .lst [frD (pOf u d), frD (pOf d u)]) (ea_cons (ev_coinD (by walk_at "ra") su sd) (ea_cons (e_shares (by walk_at "ra") su sd) ea_nil)) ?_)
  show ExS G.K E _ [some (.lst (ns.map .int)), some (.ref l), some (.tup [.int u, .int d]), some (.lst [.int j, .int k]), some (coinD G u d), some (.lst [frD (pOf u d), frD (pOf d u)]), none, none, none, none, none, none, none, none] [(l, r2)] _
  refine s_seq (s_asgGP (EvD.p (d := .lst [.int j, .int k]) (by walk_at "ra") ⟨_, _, gl_two, ?_⟩))
  show ExS G.K E _ [some (.lst (ns.map .int)), some (.ref l), some (.tup [.int u, .int d]), some (.lst [.int j, .int k]), some (coinD G u d), some (.lst [frD (pOf u d), frD (pOf d u)]), some (.int j), some (.int k), none, none, none, none, none, none] [(l, r2)] _
  let f : Int → Rat := meanR (pOf u d) (pOf d u) j k
  refine s_seq (s_asgP (ev_disp (kds := [(.inl 100, frD 0), (.inl (0 - 100), frD 0)]) (fun x _ => ep_cons ev_int (by rw [frD_zero]; walk_at "ra") (ep_cons (show EvD G.K _ _ _ (.int (0 - 100)) by walk_at "ra") (by rw [frD_zero]; walk_at "ra") ep_nil)) (by simp) fun x hx => ?_))
  show ExS G.K E _ [some (.lst (ns.map .int)), some (.ref l), some (.tup [.int u, .int d]), some (.lst [.int j, .int k]), some (coinD G u d), some (.lst [frD (pOf u d), frD (pOf d u)]), some (.int j), some (.int k), some (.ref x), none, none, none, none, none] [(x, .dic [(.inl 100, frD 0), (.inl (-100), frD 0)]), (l, r2)] _
  have b1 : -(2 ^ 62) ≤ 1 - k ∧ 1 - k < 2 ^ 62 ∧ -(2 ^ 62) ≤ j ∧ j < 2 ^ 62 := by omega
  refine s_seq (s_for (wk_rng2 (lo := 1 - k) (n := j) (by walk_at "ra") b1)
    (fun i ts m => ∃ o kvs, kvs.length ≤ 2 + i ∧ Holds kvs 0 0 f (1 - k) i ∧ m = [(x, .dic kvs), (l, r2)] ∧ ts = [some (.lst (ns.map .int)), some (.ref l), some (.tup [.int u, .int d]), some (.lst [.int j, .int k]), some (coinD G u d), some (.lst [frD (pOf u d), frD (pOf d u)]), some (.int j), some (.int k), some (.ref x), o, none, none, none, none])
    ⟨none, _, by simp, ⟨rfl, rfl, fun i hi => absurd hi (by omega)⟩, rfl, rfl⟩ (fun _ _ _ _ => trivial) ?_ ?_)
  · rintro i dt ts1 m1 hi ⟨o, kvs, hl, hh, rfl, rfl⟩
    obtain ⟨rfl, hlt⟩ := rngD_at hi
    refine ⟨_, _, gt_nm, ?_⟩
    show ExS G.K E _ [some (.lst (ns.map .int)), some (.ref l), some (.tup [.int u, .int d]), some (.lst [.int j, .int k]), some (coinD G u d), some (.lst [frD (pOf u d), frD (pOf d u)]), some (.int j), some (.int k), some (.ref x), some (.int (1 - k + i)), none, none, none, none] [(x, .dic kvs), (l, r2)] _
    refine s_dput (i := 0) (k := .inl (1 - k + i)) (d := frD (f (1 - k + i))) (e_mean (by walk_at "ra") su sd rj rk (by omega) (by omega)) (ev_var rfl) (ev_var rfl) rfl (by omega) ?_
    exact ⟨_, _, Nat.le_trans (length_putKD _ _ _) (by omega), holds_put hh (by omega) (by omega), rfl, rfl⟩
  rintro ts1 m1 ⟨o, kvs, hl, hh, rfl, rfl⟩
  have hlen : (rngD (1 - k) j).length = (j - (1 - k)).toNat := by simp [rngD]
  rw [hlen] at hh
  have look : ∀ s : Int, 1 - k ≤ s → s < j → valD kvs (.inl s) = some (frD (f s)) := fun s h0 h1 => by
    have := hh.2.2 (s - (1 - k)).toNat (by omega)
    rw [show (1 - k) + ((s - (1 - k)).toNat : Int) = s by omega] at this
    exact this
  refine s_seq (s_for (wk_rng2 (lo := 1 - k) (n := j) (by walk_at "ra") b1)
    (fun i ts m => ∃ o1 o2 o3 o4, m = [(x, .dic kvs), (l, r2)] ∧ ts = [some (.lst (ns.map .int)), some (.ref l), some (.tup [.int u, .int d]), some (.lst [.int j, .int k]), some (coinD G u d), some (.lst [frD (pOf u d), frD (pOf d u)]), some (.int j), some (.int k), some (.ref x), o1, o2, o3, o4, none])
    ⟨_, none, none, none, rfl, rfl⟩ (fun _ _ _ _ => trivial) ?_ ?_)
  · rintro i dt ts1 m1 hi ⟨o1, o2, o3, o4, rfl, rfl⟩
    obtain ⟨rfl, hlt⟩ := rngD_at hi
    refine ⟨_, _, gt_nm, ?_⟩
    have hs1 : 1 - k ≤ 1 - k + (i : Int) := by omega
    generalize hS : 1 - k + (i : Int) = s at *
    show ExS G.K E _ [some (.lst (ns.map .int)), some (.ref l), some (.tup [.int u, .int d]), some (.lst [.int j, .int k]), some (coinD G u d), some (.lst [frD (pOf u d), frD (pOf d u)]), some (.int j), some (.int k), some (.ref x), some (.int s), o2, o3, o4, none] [(x, .dic kvs), (l, r2)] _
    refine s_seq (s_asgGP ((ev_call (d := .lst [.int (upS j s), .int (downS k s)]) (by walk_at "ra") ⟨j, k, s, rfl, rfl, rfl⟩ : EvD _ _ _ _ _).p ⟨_, _, gl_two, ?_⟩))
    have ru : 1 ≤ rawU s ∧ rawU s ≤ j := by unfold rawU; split <;> omega
    have rd : rawD s ≤ -1 ∧ -k ≤ rawD s := by unfold rawD; split <;> omega
    have lu : valD kvs (.inl (upS j s)) = some (frD (endU j (rawU s) 0 f)) := by
      rw [upS_raw]; unfold endU
      split
      · exact hh.1
      · exact look _ (by omega) (by omega)
    have ld : valD kvs (.inl (downS k s)) = some (frD (endU (-k) (rawD s) 0 f)) := by
      rw [downS_raw]; unfold endU
      split
      · exact hh.2.1
      · exact look _ (by omega) (by omega)
    have key : f s = (pOf u d * endU j (rawU s) 0 f + pOf d u * endU (-k) (rawD s) 0 f) + 1 := mean_next ps (pne su sd) (pne sd su) j1 k1 hs1 (by omega) (ends_ne su sd rj rk)
    have su1 : Sz 2900 (endU j (rawU s) 0 f) := by
      unfold endU
      split
      · exact sz_zero.mono (by omega)
      · exact sz_mean su sd rj rk (by omega) (by omega)
    have sd1 : Sz 2900 (endU (-k) (rawD s) 0 f) := by
      unfold endU
      split
      · exact sz_zero.mono (by omega)
      · exact sz_mean su sd rj rk (by omega) (by omega)
    generalize endU j (rawU s) 0 f = A at *
    generalize endU (-k) (rawD s) 0 f = B at *
    show ExS G.K E _ [some (.lst (ns.map .int)), some (.ref l), some (.tup [.int u, .int d]), some (.lst [.int j, .int k]), some (coinD G u d), some (.lst [frD (pOf u d), frD (pOf d u)]), some (.int j), some (.int k), some (.ref x), some (.int s), some (.int (upS j s)), some (.int (downS k s)), o4, none] [(x, .dic kvs), (l, r2)] _
    refine s_seq (s_asg (d := frD (pOf u d * A + pOf d u * B)) (e_lsum (ea_cons (e_ltimes (p := pOf u d) (q := A) (ea_cons (ev_ixL (ev_var rfl) ev_int rfl) (ea_cons (ev_dget (i := 0) (k := .inl (upS j s)) (ev_var rfl) (ev_var rfl) rfl lu) ea_nil)) zp su1)
      (ea_cons (e_ltimes (p := pOf d u) (q := B) (ea_cons (ev_ixL (ev_var rfl) ev_int rfl) (ea_cons (ev_dget (i := 0) (k := .inl (downS k s)) (ev_var rfl) (ev_var rfl) rfl ld) ea_nil)) zq sd1) ea_nil)) (zp.mul su1) (zq.mul sd1)) ?_)
    show ExS G.K E _ [some (.lst (ns.map .int)), some (.ref l), some (.tup [.int u, .int d]), some (.lst [.int j, .int k]), some (coinD G u d), some (.lst [frD (pOf u d), frD (pOf d u)]), some (.int j), some (.int k), some (.ref x), some (.int s), some (.int (upS j s)), some (.int (downS k s)), some (frD (pOf u d * A + pOf d u * B)), none] [(x, .dic kvs), (l, r2)] _
    refine s_if0 (t_neF0 (p := f s) (ev_dget (i := 0) (k := .inl s) (ev_var rfl) (ev_var rfl) rfl (look s hs1 (by omega))) (e_lsum (q := 1) (ea_cons (ev_var rfl) (by rw [frD_one]; walk_at "ra")) ((zp.mul su1).add (zq.mul sd1)) sz_one) key) (s_next ?_)
    exact ⟨_, _, _, _, rfl, rfl⟩
  rintro ts1 m1 ⟨o1, o2, o3, o4, rfl, rfl⟩
  refine s_seq (s_asgP (ev_opP (EvD.p (d := .lst badL6) (ev_lst (by unfold badL6; walk_at "ra") (by decide)) (ev_taken (r := r2) (k := 1) (by walk_at "ra") (by decide) (by decide) rfl hr2 fun y r3 h0 h9 hr3 => ?_))))
  obtain ⟨b, eb, ob, wb⟩ := bad6 h0 h9
  refine ⟨b, od_ixL eb, ?_⟩
  show ExS G.K E _ [some (.lst (ns.map .int)), some (.ref l), some (.tup [.int u, .int d]), some (.lst [.int j, .int k]), some (coinD G u d), some (.lst [frD (pOf u d), frD (pOf d u)]), some (.int j), some (.int k), some (.ref x), o1, o2, o3, o4, some b] [(x, .dic kvs), (l, r3)] _
  have fb := ob.1
  refine s_seq (s_if0 (et_or0 (t_toldN ob (ev_call (ds := [coinD G u d, b, b, .int 99]) (by walk_at "ra") ⟨u, d, b, b, .int 99, rfl, su, sd, fb, fb, rfl, ?_⟩) (ev_lst (by walk_at "ra") (by simp)))
    (t_toldN ob (ev_call (ds := [coinD G u d, .int j, b, .int 99]) (by walk_at "ra") ⟨u, d, .int j, b, .int 99, rfl, su, sd, rfl, fb, rfl, ?_⟩) (ev_lst (by walk_at "ra") (by simp)))) (s_next ?_))
  · rw [runTold_no wb]; exact ⟨rfl, rfl⟩
  · rw [runTold_ok (within_run rj), runTold_no wb]; exact ⟨rfl, rfl⟩
  refine s_seq (s_asgP (ev_opP (EvD.p (d := .lst (badS j k)) (ev_lst (by unfold badS; walk_at "ra") (by simp [badS])) (ev_taken (r := r3) (k := 1) (by walk_at "ra") (by decide) (by decide) rfl hr3 fun y r4 h0 h9 hr4 => ?_))))
  obtain ⟨b2, eb2, fb2, wb2⟩ := bad_s (j := j) (k := k) h0 h9
  refine ⟨b2, od_ixL eb2, ?_⟩
  show ExS G.K E _ [some (.lst (ns.map .int)), some (.ref l), some (.tup [.int u, .int d]), some (.lst [.int j, .int k]), some (coinD G u d), some (.lst [frD (pOf u d), frD (pOf d u)]), some (.int j), some (.int k), some (.ref x), o1, o2, o3, o4, some b2] [(x, .dic kvs), (l, r4)] _
  refine s_ret (d := .bl true) (EvD.is (ev_eqD (p1 := .str "state") (p2 := .str "state") (d1 := .str "state") (d2 := .str "state") (ev_call (ds := [coinD G u d, .int j, .int k, b2]) (by walk_at "ra") ⟨u, d, .int j, .int k, b2, rfl, su, sd, rfl, rfl, fb2, ?_⟩) (by walk_at "ra") rfl rfl (by decide +kernel) (by decide +kernel)) (congrArg D.bl (by decide +kernel))) (p _)
  rw [runTold_ok (within_run rj), runTold_ok (within_run rk)]
  show Ends2 _ _ (.rt (stateTold j k b2 .non) _)
  rw [stateTold_no wb2]
  exact ⟨rfl, rfl⟩
end RA
set_option Elab.async false
set_option linter.all false
set_option maxRecDepth 100000
set_option maxHeartbeats 4000000
/-! The defs' readings (printed by gen.py). -/
namespace RA
open PySem PySem.Spec PyProof.Rows L2 Evl
/-- lowest: 0 top, 1 bottom, 2 divisor, 3 number -/
def n_lowest : List Str := ["top", "bottom", "divisor", "number"]
def t_lowest (G : Gam) (E : XK) : TS :=
  (tSeq (tAsg (tC (.int 0)) (gName 2))
    (tSeq (tFor (iTup G.K (tOp (rCatA G.K) (tVar 0) (tVar 1))) (gName 3) (tAsg (tCall (SpD G.K (R_common G)) [] E (tCons (tVar 2) (tCons (tVar 3) tNil))) (gName 2)))
    (tSeq (tIfS (tTest (tOp (rI0 fun i j => .bl (decide (i < j))) (tOp (rIxL G.K) (tLc (iTup G.K (tVar 1)) (gName 3) (tTest (tOp rNe (tVar 3) (tC (.int 0)))) (tVar 3) [3]) (tC (.int 0))) (tC (.int 0)))) (tAsg (tUn (rU fun i => .int (-i)) (tVar 2)) (gName 2)) tNext)
    (tRet (tTup (tCons (tCB (rTupleOf G.K) (tCons (tLc (iTup G.K (tVar 0)) (gName 3) tYes (tOp (rI CDivW fun i j => .int (i / j)) (tVar 3) (tVar 2)) [3]) tNil)) (tCons (tCB (rTupleOf G.K) (tCons (tLc (iTup G.K (tVar 1)) (gName 3) tYes (tOp (rI CDivW fun i j => .int (i / j)) (tVar 3) (tVar 2)) [3]) tNil)) tNil)))))))
/-- chance_form: 0 coin, 1 whole, 2 down -/
def n_chance_form : List Str := ["coin", "whole", "down"]
def t_chance_form (G : Gam) (E : XK) : TS :=
  (tSeq (tPar 1 2 (tCons (tOp (rIxT G.K) (tFld G.K (tVar 0) "behind") (tC (.int 1))) (tCons (tOp (rIxT G.K) (tFld G.K (tVar 0) "behind") (tC (.int 0))) tNil)))
    (tRet (tCall (SpD G.K (R_lowest G)) [] E (tCons (tTup (tCons (tC (.int 0)) (tCons (tVar 1) (tCons (tC (.int 0)) (tCons (tUn (rU fun i => .int (-i)) (tVar 2)) tNil))))) (tCons (tTup (tCons (tC (.int 0)) (tCons (tVar 1) (tCons (tVar 1) (tCons (tUn (rU fun i => .int (-i)) (tVar 1)) tNil))))) tNil)))))
/-- mean_form: 0 coin, 1 up, 2 down, 3 both -/
def n_mean_form : List Str := ["coin", "up", "down", "both"]
def t_mean_form (G : Gam) (E : XK) : TS :=
  (tSeq (tPar 1 2 (tCons (tOp (rIxT G.K) (tFld G.K (tVar 0) "ahead") (tC (.int 0))) (tCons (tOp (rIxT G.K) (tFld G.K (tVar 0) "behind") (tC (.int 0))) tNil)))
    (tSeq (tAsg (tOp (rI CMulW fun i j => .int (i * j)) (tVar 1) (tVar 2)) (gName 3))
    (tRet (tCall (SpD G.K (R_lowest G)) [] E (tCons (tTup (tCons (tOp (rI CMulW fun i j => .int (i * j)) (tOp (rI0 fun i j => .int (i + j)) (tVar 1) (tVar 2)) (tOp (rI0 fun i j => .int (i + j)) (tVar 1) (tVar 2))) (tCons (tOp (rI0 fun i j => .int (i - j)) (tUn (rU fun i => .int (-i)) (tVar 3)) (tOp (rI CMulW fun i j => .int (i * j)) (tVar 1) (tVar 1))) (tCons (tOp (rI0 fun i j => .int (i - j)) (tUn (rU fun i => .int (-i)) (tVar 3)) (tOp (rI CMulW fun i j => .int (i * j)) (tVar 2) (tVar 2))) (tCons (tVar 3) tNil))))) (tCons (tTup (tCons (tC (.int 0)) (tCons (tVar 3) (tCons (tVar 3) (tCons (tUn (rU fun i => .int (-i)) (tVar 3)) tNil))))) tNil))))))
/-- reckoned: 0 numbers, 1 x, 2 y, 3 found, 4 number, 5 share -/
def n_reckoned : List Str := ["numbers", "x", "y", "found", "number", "share"]
def t_reckoned (G : Gam) (E : XK) : TS :=
  (tSeq (tAsg (tTup (tCons (tOp (rIxT G.K) (tVar 0) (tC (.int 0))) (tCons (tC (.int 1)) tNil))) (gName 3))
    (tSeq (tFor (RZ.iZipA G.K (tCons (tSl (rSlT G.K) (tVar 0) (tPart (tC (.int 1))) tNoPart) (tCons (tTup (tCons (tVar 1) (tCons (tVar 2) (tCons (tCall (SpD G.K (R_product G)) [] E (tCons (tVar 1) (tCons (tVar 2) tNil))) tNil)))) tNil))) (gTup G.K 2 (gCons (gName 4) (gCons (gName 5) gNil))) (tAsg (tCall (SpD G.K (R_added G)) [] E (tCons (tVar 3) (tCons (tCall (SpD G.K (R_product G)) [] E (tCons (tTup (tCons (tVar 4) (tCons (tC (.int 1)) tNil))) (tCons (tVar 5) tNil))) tNil))) (gName 3)))
    (tRet (tVar 3))))
/-- value: 0 form, 1 coin, 2 j, 3 k, 4 x, 5 y -/
def n_value : List Str := ["form", "coin", "j", "k", "x", "y"]
def t_value (G : Gam) (E : XK) : TS :=
  (tSeq (tDrop (tCall (SpD G.K (R_need_runs G)) [] E (tCons (tVar 2) (tCons (tVar 3) (tCons (tC (.int 40)) tNil)))))
    (tSeq (tAsg (tCall (SpD G.K (R_powers G)) [] E (tCons (tVar 1) (tCons (tVar 2) (tCons (tVar 3) tNil)))) (gTup G.K 2 (gCons (gName 4) (gCons (gName 5) gNil))))
    (tRet (tCall (SpD G.K (R_over G)) [] E (tCons (tCall (SpD G.K (R_reckoned G)) [] E (tCons (tOp (rIxT G.K) (tVar 0) (tC (.int 0))) (tCons (tVar 4) (tCons (tVar 5) tNil)))) (tCons (tCall (SpD G.K (R_reckoned G)) [] E (tCons (tOp (rIxT G.K) (tVar 0) (tC (.int 1))) (tCons (tVar 4) (tCons (tVar 5) tNil)))) tNil))))))
/-- far: 0 form, 1 coin, 2 j, 3 x -/
def n_far : List Str := ["form", "coin", "j", "x"]
def t_far (G : Gam) (E : XK) : TS :=
  (tSeq (tDrop (tCall (SpD G.K (R_need_run G)) [] E (tCons (tVar 2) (tCons (tC (.int 40)) tNil))))
    (tSeq (tAsg (tOp (rIxT G.K) (tCall (SpD G.K (R_powers G)) [] E (tCons (tVar 1) (tCons (tVar 2) (tCons (tC (.int 1)) tNil)))) (tC (.int 0))) (gName 3))
    (tRet (tCall (SpD G.K (R_over G)) [] E (tCons (tCall (SpD G.K (R_reckoned G)) [] E (tCons (tOp (rIxT G.K) (tVar 0) (tC (.int 0))) (tCons (tVar 3) (tCons (tTup (tCons (tC (.int 0)) (tCons (tC (.int 1)) tNil))) tNil)))) (tCons (tCall (SpD G.K (R_reckoned G)) [] E (tCons (tOp (rIxT G.K) (tVar 0) (tC (.int 1))) (tCons (tVar 3) (tCons (tTup (tCons (tC (.int 0)) (tCons (tC (.int 1)) tNil))) tNil)))) tNil))))))
/-- _law_total: 0 _law_some, 1 _law_found, 2 _law_one -/
def n__law_total : List Str := ["_law_some", "_law_found", "_law_one"]
def t__law_total (G : Gam) (E : XK) : TS :=
  (tSeq (tAsg (tTup (tCons (tC (.int 0)) (tCons (tC (.int 1)) tNil))) (gName 1))
    (tSeq (tFor (iList G.K (tVar 0)) (gName 2) (tAsg (tCall (SpD G.K (R__law_sum G)) [] E (tCons (tVar 1) (tCons (tVar 2) tNil))) (gName 1)))
    (tRet (tVar 1))))
/-- _law_is_form: 0 _law_told_here, 1 _law_one, 2 _law_number, 3 _law_mate, 4 _law_low -/
def n__law_is_form : List Str := ["_law_told_here", "_law_one", "_law_number", "_law_mate", "_law_low"]
def t__law_is_form (G : Gam) (E : XK) : TS :=
  (tSeq (tAsg (tC (.int 0)) (gName 1))
    (tSeq (tFor (iTup G.K (tOp (rCatA G.K) (tOp (rIxT G.K) (tVar 0) (tC (.int 0))) (tOp (rIxT G.K) (tVar 0) (tC (.int 1))))) (gName 2) (tSeq (tAsg (tCB rAbs (tCons (tVar 2) tNil)) (gName 3))
    (tWhile (tTest (tOp (rI0 fun i j => .bl (decide (j < i))) (tVar 3) (tC (.int 0)))) (tPar 1 3 (tCons (tVar 3) (tCons (tOp (rI (fun _ j => 0 < j) fun i j => .int (i % j)) (tVar 1) (tVar 3)) tNil))))))
    (tSeq (tAsg (tOp (rIxT G.K) (tOp (rIxT G.K) (tVar 0) (tC (.int 1))) (tC (.int 1))) (gName 4))
    (tRet (tAndV (tOp rEq (tVar 1) (tC (.int 1))) (tAndV (tOp (rI0 fun i j => .bl (decide (j < i))) (tVar 4) (tC (.int 0))) (tAndV (tOp (rEqD G.K) (tOp (rIxT G.K) (tVar 0) (tC (.int 1))) (tTup (tCons (tC (.int 0)) (tCons (tVar 4) (tCons (tVar 4) (tCons (tOp (rI0 fun i j => .int (i - j)) (tC (.int 0)) (tVar 4)) tNil)))))) (tOp rEq (tCB (rLen G.K) (tCons (tOp (rIxT G.K) (tVar 0) (tC (.int 0))) tNil)) (tC (.int 4))))))))))
/-- _law_told: 0 _law_numbers, 1 _law_x, 2 _law_y, 3 _law_some, 4 _law_k -/
def n__law_told_k07 : List Str := ["_law_numbers", "_law_x", "_law_y", "_law_some", "_law_k"]
def t__law_told_k07 (G : Gam) (E : XK) : TS :=
  (tSeq (tAsg (tLst (tCons (tTup (tCons (tC (.int 1)) (tCons (tC (.int 1)) tNil))) (tCons (tVar 1) (tCons (tVar 2) (tCons (tCall (SpD G.K (R__law_times G)) [] E (tCons (tVar 1) (tCons (tVar 2) tNil))) tNil))))) (gName 3))
    (tRet (tCall (SpD G.K (R__law_total G)) [] E (tCons (tLc (iRng1 (tCons (tC (.int 4)) tNil)) (gName 4) tYes (tCall (SpD G.K (R__law_times G)) [] E0 (tCons (tTup (tCons (tOp (rIxT G.K) (tVar 0) (tVar 4)) (tCons (tC (.int 1)) tNil))) (tCons (tOp (rIxL G.K) (tVar 3) (tVar 4)) tNil))) [4]) tNil))))
/-- _law_refused: 0 _law_told_here, 1 _law_coin, 2 _law_j, 3 _law_k, 4 _law_found, 5 e -/
def tb0__law_refused_k07 (G : Gam) (E2 : XK) : TS :=
  (tIfS (tTest (tOp rEq (tVar 3) (tC (.int 0)))) (tDrop (tCall (SpD G.K (R_far G)) [] E2 (tCons (tVar 0) (tCons (tVar 1) (tCons (tVar 2) tNil))))) (tDrop (tCall (SpD G.K (R_value G)) [] E2 (tCons (tVar 0) (tCons (tVar 1) (tCons (tVar 2) (tCons (tVar 3) tNil)))))))
def n__law_refused_k07 : List Str := ["_law_told_here", "_law_coin", "_law_j", "_law_k", "_law_found", "e"]
def t__law_refused_k07 (G : Gam) (E : XK) : TS :=
  (tSeq (tAsg (tC .non) (gName 4))
    (tSeq (tTry G.K (fun cls d _ H => E cls d H) [((Value.ref G.cBadRun), (some 5), fun a cls d => (tAsg (tLst (tCons (tC (.str "run")) (tCons (tXf a cls d G.cBadRun "value" (tVar 5)) tNil))) (gName 4)))] (fun W => tb0__law_refused_k07 G (EW 6 W)))
    (tRet (tVar 4))))
/-- law: 0 _law_script, 1 _law_row, 2 _law_d, 3 _law_coin, 4 _law_shares_here, 5 _law_first, 6 _law_second, 7 _law_turn, 8 _law_j, 9 _law_k, 10 _law_numbers, 11 _law_due, 12 _law_bad -/
def n_law_k07 : List Str := ["_law_script", "_law_row", "_law_d", "_law_coin", "_law_shares_here", "_law_first", "_law_second", "_law_turn", "_law_j", "_law_k", "_law_numbers", "_law_due", "_law_bad"]
def t_law_k07 (G : Gam) (E : XK) : TS :=
  (tSeq (tAsg (tLst (tCons (tVar 0) (tCons (tC (.int 0)) (tCons (tC (.int 227)) (tCons (tC (.int 0)) tNil))))) (gName 1))
    (tSeq (tAsg (tCall (SpD G.K (R__law_drawn G)) [] E (tCons (tVar 1) tNil)) (gName 2))
    (tSeq (tPar 3 4 (tCons (tMake G.cCoin (SpD G.K (R_Coin_init G)) [] E (tCons (tOp (rIxT G.K) (tVar 2) (tC (.int 0))) (tCons (tOp (rIxT G.K) (tVar 2) (tC (.int 1))) tNil))) (tCons (tCall (SpD G.K (R__law_shares G)) [] E (tCons (tVar 2) tNil)) tNil)))
    (tSeq (tPar 5 6 (tCons (tCall (SpD G.K (R_chance_form G)) [] E (tCons (tVar 3) tNil)) (tCons (tCall (SpD G.K (R_mean_form G)) [] E (tCons (tVar 3) tNil)) tNil)))
    (tSeq (tIfS (tOr (tNot (tB (tCall (SpD G.K (R__law_is_form G)) [] E (tCons (tVar 5) tNil)))) (tNot (tB (tCall (SpD G.K (R__law_is_form G)) [] E (tCons (tVar 6) tNil))))) (tRet (tC (.bl false))) tNext)
    (tSeq (tFor (iRng1 (tCons (tC (.int 6)) tNil)) (gName 7) (tSeq (tAsg (tCall (SpD G.K (R__law_runs G)) [] E (tCons (tVar 1) (tCons (tC (.int 40)) tNil))) (gLst G.K 2 (gCons (gName 8) (gCons (gName 9) gNil))))
    (tSeq (tIfS (tOr (tTest (tOp (rNeD G.K) (tCall (SpD G.K (R_value G)) [] E (tCons (tVar 5) (tCons (tVar 3) (tCons (tVar 8) (tCons (tVar 9) tNil))))) (tCall (SpD G.K (R_chance G)) [] E (tCons (tVar 3) (tCons (tVar 8) (tCons (tVar 9) (tCons (tC (.int 0)) tNil))))))) (tTest (tOp (rNeD G.K) (tCall (SpD G.K (R_value G)) [] E (tCons (tVar 6) (tCons (tVar 3) (tCons (tVar 8) (tCons (tVar 9) tNil))))) (tCall (SpD G.K (R_mean G)) [] E (tCons (tVar 3) (tCons (tVar 8) (tCons (tVar 9) (tCons (tC (.int 0)) tNil)))))))) (tRet (tC (.bl false))) tNext)
    (tIfS (tOr (tTest (tOp (rNeD G.K) (tCall (SpD G.K (R_far G)) [] E (tCons (tVar 5) (tCons (tVar 3) (tCons (tVar 8) tNil)))) (tTup (tCons (tC (.int 1)) (tCons (tC (.int 1)) tNil))))) (tTest (tOp (rNeD G.K) (tCall (SpD G.K (R_far G)) [] E (tCons (tVar 6) (tCons (tVar 3) (tCons (tVar 8) tNil)))) (tCall (SpD G.K (R_mean_heads G)) [] E (tCons (tVar 3) (tCons (tVar 8) tNil)))))) (tRet (tC (.bl false))) tNext))))
    (tSeq (tAsg (tCB (rTupleOf G.K) (tCons (tLc (iRng1 (tCons (tC (.int 4)) tNil)) (gName 9) tYes (tOp (rI0 fun i j => .int (i - j)) (tCall (SpD G.K (R__law_taken G)) [] E0 (tCons (tVar 1) (tCons (tC (.int 9)) tNil))) (tC (.int 4))) [9]) tNil)) (gName 10))
    (tSeq (tAsg (tCall (SpD G.K (R__law_told_k07 G)) [] E (tCons (tVar 10) (tCons (tOp (rIxL G.K) (tVar 4) (tC (.int 0))) (tCons (tCall (SpD G.K (R__law_times G)) [] E (tCons (tOp (rIxL G.K) (tVar 4) (tC (.int 1))) (tCons (tOp (rIxL G.K) (tVar 4) (tC (.int 1))) tNil))) tNil)))) (gName 11))
    (tSeq (tIfS (tTest (tOp (rNeD G.K) (tCall (SpD G.K (R_value G)) [] E (tCons (tTup (tCons (tVar 10) (tCons (tTup (tCons (tC (.int 1)) (tCons (tC (.int 0)) (tCons (tC (.int 0)) (tCons (tC (.int 0)) tNil))))) tNil))) (tCons (tVar 3) (tCons (tC (.int 2)) (tCons (tC (.int 3)) tNil))))) (tVar 11))) (tRet (tC (.bl false))) tNext)
    (tSeq (tAsg (tOp (rIxL G.K) (tLst (tCons (tC (.int 0)) (tCons (tC (.int 41)) (tCons (tC .non) (tCons (tC (.bl true)) (tCons (tC (.str "1")) tNil)))))) (tCall (SpD G.K (R__law_taken G)) [] E (tCons (tVar 1) (tCons (tC (.int 5)) tNil)))) (gName 12))
    (tSeq (tIfS (tOr (tTest (tOp (rNeD G.K) (tCall (SpD G.K (R__law_refused_k07 G)) [] E (tCons (tVar 5) (tCons (tVar 3) (tCons (tVar 12) (tCons (tC (.int 1)) tNil))))) (tLst (tCons (tC (.str "run")) (tCons (tVar 12) tNil))))) (tTest (tOp (rNeD G.K) (tCall (SpD G.K (R__law_refused_k07 G)) [] E (tCons (tVar 5) (tCons (tVar 3) (tCons (tC (.int 1)) (tCons (tC (.int 41)) tNil))))) (tLst (tCons (tC (.str "run")) (tCons (tC (.int 41)) tNil)))))) (tRet (tC (.bl false))) tNext)
    (tRet (tOp (rEqD G.K) (tCall (SpD G.K (R__law_refused_k07 G)) [] E (tCons (tVar 5) (tCons (tVar 3) (tCons (tVar 12) (tCons (tC (.int 0)) tNil))))) (tLst (tCons (tC (.str "run")) (tCons (tVar 12) tNil))))))))))))))))
end RA
set_option Elab.async false
set_option linter.all false
set_option maxRecDepth 100000
set_option maxHeartbeats 1000000
namespace RA
open PySem PySem.Spec PyProof.Rows L2 Evl
/-! the walk over a reading -/
local macro_rules | `(tactic| walk_at "ra1") => `(tactic| first
  | exact ev_int
  | exact ev_bl
  | exact ev_non
  | exact ev_str
  | exact ev_ty
  | exact ev_ref
  | (refine ev_var ?_; rfl)
  | exact ea_nil
  | apply ea_cons
  | apply ev_opI0
  | apply ev_opB0
  | apply ev_opI
  | refine ev_neg ?_
  | apply ev_ixT
  | (show atI _ _ = some _; rfl)
  | refine ev_tup ?_ (by first | decide | simp)
  | apply ev_cb
  | apply ev_call
  | refine et_test ?_
  | refine et_B ?_
  | refine et_not ?_
  | exact et_yes)
local macro_rules | `(tactic| walk_at "ra") => `(tactic| repeat' (walk_at "ra1"))
variable {G : Gam} {ds : List D} {ts : TSt} {m : Mem} {P : Oc → Prop} {E : XK} {tl : TA}
/-- t[lo:hi] -/
theorem ev_slT {K : PySem.W.Frag} {te : TE} {ds : List D} {tlo thi : TO} {lo hi : Option Int} (h : EvD K te ts m (.tup ds)) (h1 : EvO K tlo ts m lo) (h2 : EvO K thi ts m hi) (hn : ¬ (HT.sIx ds.length 0 lo = 0 ∧ HT.sIx ds.length ds.length hi = ds.length)) : EvD K (tSl (rSlT K) te tlo thi) ts m (.tup (cutD ds lo hi)) := fun σ H M S Q q =>
  h σ H M S _ fun v H1 d' m' ⟨e1, e2⟩ M1 x1 r1 => by
    subst e1; subst e2
    refine h1 σ H1 M1 (S.mono x1) _ fun H2 M2 x2 => h2 σ H2 M2 (S.mono (x1.trans x2)) _ fun H3 M3 x3 => ?_
    obtain ⟨a, xs, rfl, hs, hd⟩ := (r1.mono (x2.trans x3)).tup_of
    exact ⟨a, xs, rfl, ex_t vis_ex hs, by rw [hd.length]; exact hn, fun p hp => q _ _ _ _ ⟨rfl, rfl⟩ (M3.new hp) (x1.trans (x2.trans (x3.trans (ex_new hp)))) (.tup (SqT.of (vis_new M3 hp)) ((cut_dens hd lo hi).mono (ex_new hp)))⟩
theorem gcdL_snoc (a : List Int) (x : Int) : gcdL (a ++ [x]) = (Int.gcd (gcdL a) x : Int) := by unfold gcdL; rw [List.foldl_append]; rfl
theorem gcdL_nonneg (a : List Int) : 0 ≤ gcdL a := by
  rcases List.eq_nil_or_concat a with rfl | ⟨b, x, rfl⟩
  · exact Int.le_refl 0
  · rw [List.concat_eq_append, gcdL_snoc]; omega
theorem gcd_le_of {g x : Int} {n : Nat} (hg : 0 ≤ g) (h : g.natAbs < 2 ^ n) (hx : x.natAbs < 2 ^ n) : (Int.gcd g x : Int).natAbs < 2 ^ n := by
  show Int.gcd g x < 2 ^ n
  unfold Int.gcd
  by_cases c : g.natAbs = 0
  · rw [c, Nat.gcd_zero_left]; exact hx
  · exact Nat.lt_of_le_of_lt (Nat.gcd_le_left _ (by omega)) h
theorem gcdL_small {a : List Int} {n : Nat} (h : ∀ x ∈ a, x.natAbs < 2 ^ n) (hn : 0 < n) : ∀ i, (gcdL (a.take i)).natAbs < 2 ^ n
  | 0 => by
    show (0 : Int).natAbs < 2 ^ n
    exact Nat.two_pow_pos n
  | i + 1 => by
    have ih := gcdL_small h hn i
    cases e : a[i]? with
    | none =>
      have l : a.length ≤ i := List.getElem?_eq_none_iff.mp e
      rw [List.take_of_length_le (by omega)]
      rw [List.take_of_length_le l] at ih
      exact ih
    | some x =>
      rw [take_snoc e, gcdL_snoc]
      exact gcd_le_of (gcdL_nonneg _) ih (h x (List.mem_of_getElem? e))
theorem map_int_get {a : List Int} {i : Nat} {d : D} (h : (a.map D.int)[i]? = some d) : ∃ x, a[i]? = some x ∧ d = .int x := by
  rw [List.getElem?_map] at h
  cases e : a[i]? with
  | none => rw [e] at h; cases h
  | some x => rw [e] at h; exact ⟨x, rfl, by simpa using h.symm⟩
theorem small_app {a b : List Int} (ha : small1 a) (hb : small1 b) : small1 (a ++ b) := fun x hx => (List.mem_append.mp hx).elim (ha x) (hb x)
theorem small_low {w : Int} (h0 : 0 < w) (h : w < 1000) : small1 (cLow w) := by
  intro x hx
  unfold cLow at hx
  simp only [List.mem_cons, List.not_mem_nil, or_false] at hx
  have : (2 : Nat) ^ 20 = 1048576 := by decide
  omega
theorem sm20 {x : Int} (h : x.natAbs < 2 ^ 20) : small9 x := two_lt h (by decide)
theorem e_common {a b : Int} (h : EvL G.K tl ts m [.int a, .int b]) (ha : small9 a) (hb : small9 b) : EvD G.K (tCall (SpD G.K (R_common G)) [] E tl) ts m (.int (Int.gcd a b)) := ev_call h ⟨a, b, rfl, ha, hb, rfl, rfl⟩
theorem gcdL_full (a : List Int) : a.take a.length = a := List.take_length
theorem lc_div1 {a : List Int} : lcD (a.map D.int) (fun _ => true) (fun d => .int (intD d / 1)) = a.map D.int := by
  unfold lcD
  rw [List.filter_eq_self.mpr (fun _ _ => rfl), List.map_map]
  apply List.map_congr_left
  intro x _
  show D.int (x / 1) = .int x
  rw [Int.ediv_one]
theorem mem_int {a : List Int} {d : D} (h : d ∈ a.map D.int) : d = .int (intD d) := by
  obtain ⟨x, _, rfl⟩ := List.mem_map.mp h
  rfl
theorem p_lowest (h : R_lowest G ds m P) : ExS G.K E (t_lowest G E) (startT n_lowest ds) m (Fin P) := by
  obtain ⟨a, w, rfl, ha, w0, w1, sa, hg, h⟩ := h
  have sw := small_low w0 w1
  have sA := small_app sa sw
  show ExS G.K E (t_lowest G E) [some (intsT a), some (intsT (cLow w)), none, none] m (Fin P)
  refine s_seq (s_asg (d := .int 0) (by walk_at "ra") ?_)
  show ExS G.K E _ [some (intsT a), some (intsT (cLow w)), some (.int 0), none] m _
  have hz : (a.map D.int).length + ((cLow w).map D.int).length ≤ 100000 := by rw [List.length_map, List.length_map, ha]; exact (by decide : 4 + 4 ≤ 100000)
  refine s_seq (s_for (wk_tup (ev_catA (ev_var rfl) (ev_var rfl) hz))
    (fun i ts1 m1 => ∃ o, m1 = m ∧ ts1 = [some (intsT a), some (intsT (cLow w)), some (.int (gcdL ((a ++ cLow w).take i))), o]) ⟨none, rfl, rfl⟩ (fun _ _ _ _ => trivial) ?_ ?_)
  · rintro i dt ts1 m1 hi ⟨o, rfl, rfl⟩
    rw [← List.map_append] at hi
    obtain ⟨x, ex, rfl⟩ := map_int_get hi
    refine ⟨_, _, gt_nm, ?_⟩
    show ExS G.K E _ [some (intsT a), some (intsT (cLow w)), some (.int (gcdL ((a ++ cLow w).take i))), some (.int x)] m1 _
    refine s_asg (d := .int (gcdL ((a ++ cLow w).take (i + 1)))) ?_ ⟨_, rfl, rfl⟩
    rw [take_snoc ex, gcdL_snoc]
    exact e_common (by walk_at "ra") (sm20 (gcdL_small sA (by decide) i)) (sm20 (sA x (List.mem_of_getElem? ex)))
  rintro ts1 m1 ⟨o, rfl, rfl⟩
  rw [← List.map_append, List.length_map, gcdL_full, hg]
  have hf : lcD ((cLow w).map D.int) (fun d => !decide (intD d = 0)) (fun d => d) = [.int w, .int w, .int (-w)] := by
    have e1 : ¬ w = 0 := by omega
    simp [lcD, cLow, intD, e1]
  refine s_seq (s_if0 ?_ (s_next ?_))
  · refine EvT.is (b := decide (w < 0)) (et_test (ev_opB0 (i := w) (j := 0) (ev_ixL (ds := [.int w, .int w, .int (-w)]) (EvD.is (ev_lc (wk_tup (ev_var rfl)) (fun d => !decide (intD d = 0)) (fun d => d) (by rw [List.length_map]; exact (by decide : 4 ≤ 100000)) (fun d l acc hd => ?_)) (by rw [hf])) ev_int rfl) ev_int)) (decide_eq_false (by omega))
    have ed := mem_int hd
    refine ⟨_, gt_nm, ?_, fun _ => ?_⟩
    · rw [ed]
      exact et_test (ev_ne (d1 := .int (intD d)) (d2 := .int 0) (ev_var rfl) ev_int rfl)
    · exact ev_var rfl
  · have comp : ∀ {b : List Int} {i : Nat}, [some (intsT a), some (intsT (cLow w)), some (D.int 1), o][i]? = some (some (intsT b)) → b.length = 4 → EvD G.K (tCB (rTupleOf G.K) (tCons (tLc (iTup G.K (tVar i)) (gName 3) tYes (tOp (rI CDivW fun i j => .int (i / j)) (tVar 3) (tVar 2)) [3]) tNil)) [some (intsT a), some (intsT (cLow w)), some (.int 1), o] m1 (intsT b) := by
      intro b i hi hl
      refine ev_cb (ea_cons (EvD.is (d1 := .lst (b.map D.int)) (ev_lc (wk_tup (ev_var hi)) (fun _ => true) (fun d => .int (intD d / 1)) (by rw [List.length_map, hl]; decide) (fun d l acc hd => ?_)) (by rw [lc_div1])) ea_nil) cb_tupleL
      have ed := mem_int hd
      rw [ed]
      refine ⟨_, gt_nm, et_yes, fun _ => ?_⟩
      show EvD G.K _ [some (intsT a), some (intsT (cLow w)), some (.int 1), some (.int (intD d))] _ _
      exact ev_opI (i := intD d) (j := 1) (ev_var rfl) (ev_var rfl) (cdivW (by decide) (sm20 (by decide)))
    exact s_ret (ev_tup (ea_cons (comp rfl ha) (ea_cons (comp rfl rfl) ea_nil)) (by simp)) h
theorem e_lowest {a : List Int} {w : Int} (h : EvL G.K tl ts m [intsT a, intsT (cLow w)]) (ha : a.length = 4) (w0 : 0 < w) (w1 : w < 1000) (sa : small1 a) (hg : gcdL (a ++ cLow w) = 1) : EvD G.K (tCall (SpD G.K (R_lowest G)) [] E tl) ts m (.tup [intsT a, intsT (cLow w)]) :=
  ev_call h ⟨a, w, rfl, ha, w0, w1, sa, hg, rfl, rfl⟩
theorem p_chance_form (T : CoinOk G) (h : R_chance_form G ds m P) : ExS G.K E (t_chance_form G E) (startT n_chance_form ds) m (Fin P) := by
  obtain ⟨u, d, rfl, hu, hd, h⟩ := h
  obtain ⟨n1, n2, n3⟩ := num_ge hd hu
  have n4 := (pOf d u).den_pos
  have hg := gcd_c hu hd
  show ExS G.K E (t_chance_form G E) [some (coinD G u d), none, none] m (Fin P)
  refine s_seq (s_par (d1 := .int (pOf d u).den) (d2 := .int (pOf d u).num) (ea_cons (ev_ixT (e_behind T (ev_var rfl)) ev_int rfl) (ea_cons (ev_ixT (e_behind T (ev_var rfl)) ev_int rfl) ea_nil)) ?_)
  show ExS G.K E _ [some (coinD G u d), some (.int (pOf d u).den), some (.int (pOf d u).num)] m _
  refine s_ret (e_lowest (ea_cons ?_ (ea_cons ?_ ea_nil)) rfl (by omega) (by omega) ?_ hg) h
  · unfold intsT cTop; simp only [List.map_cons, List.map_nil]; walk_at "ra"
  · unfold intsT cLow; simp only [List.map_cons, List.map_nil]; walk_at "ra"
  · intro x hx
    unfold cTop at hx
    simp only [List.mem_cons, List.not_mem_nil, or_false] at hx
    have : (2 : Nat) ^ 20 = 1048576 := by decide
    omega
theorem prod_le {a b : Int} (ha : 1 ≤ a) (ha2 : a ≤ 9) (hb : 1 ≤ b) (hb2 : b ≤ 9) : 1 ≤ a * b ∧ a * b ≤ 81 := by
  have h1 : a * 1 ≤ a * b := Int.mul_le_mul_of_nonneg_left hb (by omega)
  have h2 : a * b ≤ 9 * b := Int.mul_le_mul_of_nonneg_right ha2 (by omega)
  omega
theorem p_mean_form (T : CoinOk G) (h : R_mean_form G ds m P) : ExS G.K E (t_mean_form G E) (startT n_mean_form ds) m (Fin P) := by
  obtain ⟨u, d, rfl, hu, hd, h⟩ := h
  obtain ⟨a1, a2, _⟩ := num_ge hu hd
  obtain ⟨b1, b2, _⟩ := num_ge hd hu
  have hg := gcd_m hu hd
  unfold mForm at h
  show ExS G.K E (t_mean_form G E) [some (coinD G u d), none, none, none] m (Fin P)
  refine s_seq (s_par (d1 := .int (pOf u d).num) (d2 := .int (pOf d u).num) (ea_cons (ev_ixT (e_ahead T (ev_var rfl)) ev_int rfl) (ea_cons (ev_ixT (e_behind T (ev_var rfl)) ev_int rfl) ea_nil)) ?_)
  generalize (pOf u d).num = a at *
  generalize (pOf d u).num = b at *
  show ExS G.K E _ [some (coinD G u d), some (.int a), some (.int b), none] m _
  have sm : ∀ x y : Int, -100 ≤ x → x ≤ 100 → -100 ≤ y → y ≤ 100 → CMulW x y := fun x y h1 h2 h3 h4 => by
    have e : (2 : Nat) ^ 10 = 1024 := by decide
    exact cmulW (n := 10) (m := 10) (by omega) (by omega) (by decide)
  refine s_seq (s_asg (d := .int (a * b)) (by walk_at "ra"; exact sm _ _ (by omega) (by omega) (by omega) (by omega)) ?_)
  show ExS G.K E _ [some (coinD G u d), some (.int a), some (.int b), some (.int (a * b))] m _
  have pab := prod_le a1 a2 b1 b2
  have paa := prod_le a1 a2 a1 a2
  have pbb := prod_le b1 b2 b1 b2
  refine s_ret (e_lowest (ea_cons ?_ (ea_cons ?_ ea_nil)) rfl (by omega) (by omega) ?_ hg) h
  · unfold intsT mTop; simp only [List.map_cons, List.map_nil]; walk_at "ra" <;> exact sm _ _ (by omega) (by omega) (by omega) (by omega)
  · unfold intsT cLow; simp only [List.map_cons, List.map_nil]; walk_at "ra"
  · intro x hx
    unfold mTop at hx
    have e : (a + b) * (a + b) = a * a + 2 * (a * b) + b * b := by grind
    rw [e] at hx
    simp only [List.mem_cons, List.not_mem_nil, or_false] at hx
    have : (2 : Nat) ^ 20 = 1048576 := by decide
    generalize a * a = aa at *
    generalize b * b = bb at *
    generalize a * b = ab at *
    omega
theorem frD_int (i : Int) : frD (i : Rat) = .tup [.int i, .int 1] := by
  unfold frD
  rw [Rat.num_intCast, Rat.den_intCast]; rfl
theorem sz_int20 {i : Int} (h : i.natAbs < 2 ^ 20) : Sz 20 (i : Rat) := sz_int h (by decide)
theorem four {a : List Int} (h : a.length = 4) : ∃ x y z w, a = [x, y, z, w] := by
  match a, h with
  | [x, y, z, w], _ => exact ⟨x, y, z, w, rfl⟩
theorem sz_rec {a : List Int} {x y : Rat} (sa : small1 a) (ha : a.length = 4) (hx : Sz 201 x) (hy : Sz 201 y) : Sz 1000 (recR a x y) := by
  obtain ⟨i, j, k, l, rfl⟩ := four ha
  have s : ∀ t ∈ [i, j, k, l], Sz 20 ((t : Int) : Rat) := fun t ht => sz_int20 (sa t ht)
  exact ((((s i (by simp)).add ((s j (by simp)).mul hx)).add ((s k (by simp)).mul hy)).add ((s l (by simp)).mul (hx.mul hy))).mono (by decide)
theorem p_reckoned (h : R_reckoned G ds m P) : ExS G.K E (t_reckoned G E) (startT n_reckoned ds) m (Fin P) := by
  obtain ⟨a, x, y, rfl, ha, sa, hx, hy, h⟩ := h
  obtain ⟨i, j, k, l, rfl⟩ := four ha
  have s : ∀ t ∈ [i, j, k, l], Sz 20 ((t : Int) : Rat) := fun t ht => sz_int20 (sa t ht)
  have si := s i (by simp)
  have sj := s j (by simp)
  have sk := s k (by simp)
  have sl := s l (by simp)
  have h : P (.rt (frD ((((i : Rat) + (j : Rat) * x) + (k : Rat) * y) + (l : Rat) * (x * y))) m) := h
  show ExS G.K E (t_reckoned G E) [some (.tup [.int i, .int j, .int k, .int l]), some (frD x), some (frD y), none, none, none] m (Fin P)
  refine s_seq (s_asg (d := frD (i : Rat)) (by rw [frD_int]; walk_at "ra") ?_)
  show ExS G.K E _ [some (.tup [.int i, .int j, .int k, .int l]), some (frD x), some (frD y), some (frD (i : Rat)), none, none] m _
  refine s_seq (s_for (wk_zipT (ds := [.int j, .int k, .int l]) (es := [frD x, frD y, frD (x * y)]) (ea_cons (EvD.is (ev_slT (ds := [.int i, .int j, .int k, .int l]) (lo := some 1) (hi := none) (ev_var rfl) (eo_some ev_int) eo_none (show ¬ (HT.sIx 4 0 (some 1) = 0 ∧ HT.sIx 4 4 none = 4) by decide)) rfl) (ea_cons (ev_tup (ea_cons (ev_var rfl) (ea_cons (ev_var rfl) (ea_cons (e_product (by walk_at "ra") hx hy) ea_nil))) (by simp)) ea_nil)))
    (fun n ts1 m1 => ∃ o4 o5 q, m1 = m ∧ n ≤ 3 ∧ [(i : Rat), (i : Rat) + (j : Rat) * x, ((i : Rat) + (j : Rat) * x) + (k : Rat) * y, (((i : Rat) + (j : Rat) * x) + (k : Rat) * y) + (l : Rat) * (x * y)][n]? = some q ∧ ts1 = [some (.tup [.int i, .int j, .int k, .int l]), some (frD x), some (frD y), some (frD q), o4, o5])
    ⟨none, none, _, rfl, by decide, rfl, rfl⟩ (fun _ _ _ _ => trivial) ?_ ?_)
  · rintro n dt ts1 m1 hi ⟨o4, o5, q, rfl, hn, hq, rfl⟩
    obtain ⟨a', b', h1, h2, rfl⟩ := zipD_get hi
    have n3 : n < 3 := by
      have := (List.getElem?_eq_some_iff.mp h1).1
      simpa using this
    rcases (by omega : n = 0 ∨ n = 1 ∨ n = 2) with rfl | rfl | rfl
    · simp only [List.getElem?_cons_zero, List.getElem?_cons_succ, Option.some.injEq] at h1 h2 hq
      subst h1; subst h2; subst hq
      refine ⟨_, _, gt_two, ?_⟩
      show ExS G.K E _ [some (.tup [.int i, .int j, .int k, .int l]), some (frD x), some (frD y), some (frD (i : Rat)), some (.int j), some (frD x)] m1 _
      exact s_asg (d := frD ((i : Rat) + (j : Rat) * x)) (e_added (ea_cons (ev_var rfl) (ea_cons (e_product (ea_cons (by rw [frD_int]; walk_at "ra") (by walk_at "ra")) sj hx) ea_nil)) si (sj.mul hx)) ⟨_, _, _, rfl, by decide, rfl, rfl⟩
    · simp only [List.getElem?_cons_zero, List.getElem?_cons_succ, Option.some.injEq] at h1 h2 hq
      subst h1; subst h2; subst hq
      refine ⟨_, _, gt_two, ?_⟩
      show ExS G.K E _ [some (.tup [.int i, .int j, .int k, .int l]), some (frD x), some (frD y), some (frD ((i : Rat) + (j : Rat) * x)), some (.int k), some (frD y)] m1 _
      exact s_asg (d := frD (((i : Rat) + (j : Rat) * x) + (k : Rat) * y)) (e_added (ea_cons (ev_var rfl) (ea_cons (e_product (ea_cons (by rw [frD_int]; walk_at "ra") (by walk_at "ra")) sk hy) ea_nil)) (si.add (sj.mul hx)) (sk.mul hy)) ⟨_, _, _, rfl, by decide, rfl, rfl⟩
    · simp only [List.getElem?_cons_zero, List.getElem?_cons_succ, Option.some.injEq] at h1 h2 hq
      subst h1; subst h2; subst hq
      refine ⟨_, _, gt_two, ?_⟩
      show ExS G.K E _ [some (.tup [.int i, .int j, .int k, .int l]), some (frD x), some (frD y), some (frD (((i : Rat) + (j : Rat) * x) + (k : Rat) * y)), some (.int l), some (frD (x * y))] m1 _
      exact s_asg (d := frD ((((i : Rat) + (j : Rat) * x) + (k : Rat) * y) + (l : Rat) * (x * y))) (e_added (ea_cons (ev_var rfl) (ea_cons (e_product (ea_cons (by rw [frD_int]; walk_at "ra") (by walk_at "ra")) sl (hx.mul hy)) ea_nil)) ((si.add (sj.mul hx)).add (sk.mul hy)) (sl.mul (hx.mul hy))) ⟨_, _, _, rfl, by decide, rfl, rfl⟩
  · rintro ts1 m1 ⟨o4, o5, q, rfl, hn, hq, rfl⟩
    have : (zipD [.int j, .int k, .int l] [frD x, frD y, frD (x * y)]).length = 3 := rfl
    rw [this] at hq
    simp only [List.getElem?_cons_zero, List.getElem?_cons_succ, Option.some.injEq] at hq
    subst hq
    exact s_ret (ev_var rfl) h
theorem e_reckoned {a : List Int} {x y : Rat} (h : EvL G.K tl ts m [intsT a, frD x, frD y]) (ha : a.length = 4) (sa : small1 a) (hx : Sz 201 x) (hy : Sz 201 y) : EvD G.K (tCall (SpD G.K (R_reckoned G)) [] E tl) ts m (frD (recR a x y)) := ev_call h ⟨a, x, y, rfl, ha, sa, hx, hy, rfl, rfl⟩
theorem p_value (h : R_value G ds m P) : ExS G.K E (t_value G E) (startT n_value ds) m (Fin P) := by
  obtain ⟨a, b, u, d, j, k, rfl, ha, hb, sa, sb, hu, hd, fj, fk, hz, h⟩ := h
  show ExS G.K E (t_value G E) [some (.tup [intsT a, intsT b]), some (coinD G u d), some j, some k, none, none] m (Fin P)
  refine s_need_runs (d := j) (e := k) (most := 40) (o := .rt (frD (recR a (pOf u d ^ (intD j - 1).toNat) (pOf d u ^ (intD k - 1).toNat) / recR b (pOf u d ^ (intD j - 1).toNat) (pOf d u ^ (intD k - 1).toNat))) m) (by walk_at "ra") fj fk (fin_run h fun h => fin_run h id) (fun cj ck h => ?_)
  have hz := hz cj ck
  obtain ⟨ej, j1, j2⟩ := within_int cj
  obtain ⟨ek, k1, k2⟩ := within_int ck
  rw [ej, ek]
  have x := (pw_x hu hd (j := intD j) (k := intD k) ⟨j1, j2⟩ ⟨k1, k2⟩).1
  have y := (pw_x hd hu (j := intD k) (k := intD j) ⟨k1, k2⟩ ⟨j1, j2⟩).1
  show ExS G.K E _ [some (.tup [intsT a, intsT b]), some (coinD G u d), some (.int (intD j)), some (.int (intD k)), none, none] m (Fin P)
  refine s_seq (s_asgGP ((e_powers (by walk_at "ra") hu hd ⟨j1, j2⟩ ⟨k1, k2⟩).p ⟨_, _, gt_two, ?_⟩))
  generalize pOf u d ^ (intD j - 1).toNat = X at *
  generalize pOf d u ^ (intD k - 1).toNat = Y at *
  show ExS G.K E _ [some (.tup [intsT a, intsT b]), some (coinD G u d), some (.int (intD j)), some (.int (intD k)), some (frD X), some (frD Y)] m (Fin P)
  exact s_ret (e_over (ea_cons (e_reckoned (ea_cons (ev_ixT (ev_var rfl) ev_int rfl) (by walk_at "ra")) ha sa x y) (ea_cons (e_reckoned (ea_cons (ev_ixT (ev_var rfl) ev_int rfl) (by walk_at "ra")) hb sb x y) ea_nil)) (sz_rec sa ha x y) (sz_rec sb hb x y) hz) h
theorem p_far (h : R_far G ds m P) : ExS G.K E (t_far G E) (startT n_far ds) m (Fin P) := by
  obtain ⟨a, b, u, d, j, rfl, ha, hb, sa, sb, hu, hd, fj, hz, h⟩ := h
  show ExS G.K E (t_far G E) [some (.tup [intsT a, intsT b]), some (coinD G u d), some j, none] m (Fin P)
  refine s_need_run (d := j) (most := 40) (o := .rt (frD (recR a (pOf u d ^ (intD j - 1).toNat) 0 / recR b (pOf u d ^ (intD j - 1).toNat) 0)) m) (by walk_at "ra") fj (fin_run h id) (fun cj h => ?_)
  have hz := hz cj
  obtain ⟨ej, j1, j2⟩ := within_int cj
  rw [ej]
  have x := (pw_x hu hd (j := intD j) (k := 1) ⟨j1, j2⟩ ⟨by decide, by decide⟩).1
  have y : Sz 201 (0 : Rat) := sz_zero.mono (by decide)
  show ExS G.K E _ [some (.tup [intsT a, intsT b]), some (coinD G u d), some (.int (intD j)), none] m (Fin P)
  refine s_seq (s_asg (d := frD (pOf u d ^ (intD j - 1).toNat)) (ev_ixT (e_powers (j := intD j) (k := 1) (by walk_at "ra") hu hd ⟨j1, j2⟩ ⟨by decide, by decide⟩) ev_int rfl) ?_)
  generalize pOf u d ^ (intD j - 1).toNat = X at *
  show ExS G.K E _ [some (.tup [intsT a, intsT b]), some (coinD G u d), some (.int (intD j)), some (frD X)] m (Fin P)
  exact s_ret (e_over (ea_cons (e_reckoned (ea_cons (ev_ixT (ev_var rfl) ev_int rfl) (ea_cons (ev_var rfl) (ea_cons (by rw [frD_zero]; walk_at "ra") ea_nil))) ha sa x y) (ea_cons (e_reckoned (ea_cons (ev_ixT (ev_var rfl) ev_int rfl) (ea_cons (ev_var rfl) (ea_cons (by rw [frD_zero]; walk_at "ra") ea_nil))) hb sb x y) ea_nil)) (sz_rec sa ha x y) (sz_rec sb hb x y) hz) h
theorem map_frD_get {a : List Rat} {i : Nat} {d : D} (h : (a.map frD)[i]? = some d) : ∃ x, a[i]? = some x ∧ d = frD x := by
  rw [List.getElem?_map] at h
  cases e : a[i]? with
  | none => rw [e] at h; cases h
  | some x => rw [e] at h; exact ⟨x, rfl, by simpa using h.symm⟩
theorem p__law_total (h : R__law_total G ds m P) : ExS G.K E (t__law_total G E) (startT n__law_total ds) m (Fin P) := by
  obtain ⟨qs, n, rfl, hq, hz, h⟩ := h
  show ExS G.K E (t__law_total G E) [some (.lst (qs.map frD)), none, none] m (Fin P)
  refine s_seq (s_asg (d := frD 0) (by rw [frD_zero]; walk_at "ra") ?_)
  refine s_seq (s_for (wk_list (ev_var rfl)) (fun i ts1 m1 => ∃ o, m1 = m ∧ i ≤ qs.length ∧ Sz ((i + 1) * (n + 1)) ((qs.take i).foldl (· + ·) 0) ∧ ts1 = [some (.lst (qs.map frD)), some (frD ((qs.take i).foldl (· + ·) 0)), o])
    ⟨none, rfl, by omega, sz_zero.mono (by omega), rfl⟩ (fun _ _ _ _ => trivial) ?_ ?_)
  · rintro i dt ts1 m1 hi ⟨o, rfl, hl, hs, rfl⟩
    obtain ⟨x, ex, rfl⟩ := map_frD_get hi
    have il : i < qs.length := (List.getElem?_eq_some_iff.mp ex).1
    have sx := hq x (List.mem_of_getElem? ex)
    refine ⟨_, _, gt_nm, ?_⟩
    show ExS G.K E _ [some (.lst (qs.map frD)), some (frD ((qs.take i).foldl (· + ·) 0)), some (frD x)] m1 _
    have e1 : (i + 1) * (n + 1) ≤ (qs.length + 1) * (n + 1) := Nat.mul_le_mul_right _ (by omega)
    have e2 : (i + 1 + 1) * (n + 1) = (i + 1) * (n + 1) + (n + 1) := by rw [Nat.succ_mul]
    refine s_asg (d := frD ((qs.take (i + 1)).foldl (· + ·) 0)) ?_ ⟨_, rfl, by omega, ?_, rfl⟩
    · rw [take_snoc ex, List.foldl_append]
      exact e_lsum (by walk_at "ra") hs sx (by omega)
    · rw [take_snoc ex, List.foldl_append]
      exact (hs.add sx).mono (by omega)
  · rintro ts1 m1 ⟨o, rfl, hl, hs, rfl⟩
    rw [List.length_map, List.take_length]
    exact s_ret (ev_var rfl) h
theorem p__law_is_form (h : R__law_is_form G ds m P) : ExS G.K E (t__law_is_form G E) (startT n__law_is_form ds) m (Fin P) := by
  obtain ⟨a, w, rfl, ha, w0, w1, hg, h⟩ := h
  show ExS G.K E (t__law_is_form G E) [some (.tup [intsT a, intsT (cLow w)]), none, none, none, none] m (Fin P)
  refine s_seq (s_asg (d := .int 0) (by walk_at "ra") ?_)
  show ExS G.K E _ [some (.tup [intsT a, intsT (cLow w)]), some (.int 0), none, none, none] m _
  have hz : (a.map D.int).length + ((cLow w).map D.int).length ≤ 100000 := by rw [List.length_map, List.length_map, ha]; exact (by decide : 4 + 4 ≤ 100000)
  refine s_seq (s_for (wk_tup (ev_catA (ev_ixT (d := intsT a) (ev_var rfl) ev_int rfl) (ev_ixT (d := intsT (cLow w)) (ev_var rfl) ev_int rfl) hz))
    (fun i ts1 m1 => ∃ o2 o3, m1 = m ∧ ts1 = [some (.tup [intsT a, intsT (cLow w)]), some (.int (gcdL ((a ++ cLow w).take i))), o2, o3, none]) ⟨none, none, rfl, rfl⟩ (fun _ _ _ _ => trivial) ?_ ?_)
  · rintro i dt ts1 m1 hi ⟨o2, o3, rfl, rfl⟩
    rw [← List.map_append] at hi
    obtain ⟨x, ex, rfl⟩ := map_int_get hi
    refine ⟨_, _, gt_nm, ?_⟩
    show ExS G.K E _ [some (.tup [intsT a, intsT (cLow w)]), some (.int (gcdL ((a ++ cLow w).take i))), some (.int x), o3, none] m1 _
    refine s_seq (s_asg (d := .int (if x < 0 then -x else x)) (ev_cb (ea_cons (ev_var rfl) ea_nil) cb_abs) ?_)
    rw [abs_if]
    have g0 := gcdL_nonneg ((a ++ cLow w).take i)
    have eg : gcdL ((a ++ cLow w).take (i + 1)) = (Int.gcd (gcdL ((a ++ cLow w).take i)) x : Int) := by rw [take_snoc ex, gcdL_snoc]
    generalize gcdL ((a ++ cLow w).take i) = g at *
    show ExS G.K E _ [some (.tup [intsT a, intsT (cLow w)]), some (.int g), some (.int x), some (.int (x.natAbs : Int)), none] m1 _
    refine s_while (fun n ts2 m2 => ∃ p q : Int, m2 = m1 ∧ ts2 = [some (.tup [intsT a, intsT (cLow w)]), some (.int p), some (.int x), some (.int q), none] ∧ 0 ≤ p ∧ 0 ≤ q ∧ n = q.toNat ∧ Int.gcd p q = Int.gcd g x) x.natAbs
      ⟨g, _, rfl, rfl, g0, by omega, by omega, by simp [Int.gcd]⟩ ?_
    rintro n ts2 m2 ⟨p, q, rfl, rfl, hp, hq, rfl, he⟩
    refine ⟨decide (0 < q), by walk_at "ra", fun c => ?_, fun c => ?_⟩
    · have c : 0 < q := of_decide_eq_true c
      refine s_par (d1 := .int q) (d2 := .int (p % q)) (ea_cons (by walk_at "ra") (ea_cons (by walk_at "ra"; exact c) ea_nil)) ?_
      have h1 := Int.emod_nonneg p (by omega : q ≠ 0)
      have h2 := Int.emod_lt_of_pos p c
      exact ⟨(p % q).toNat, by omega, q, p % q, rfl, rfl, hq, h1, rfl, by rw [gcd_mod, he]⟩
    · have c : q = 0 := by
        have := of_decide_eq_false c
        omega
      subst c
      have e : p = (Int.gcd g x : Int) := by
        rw [← he]; simp [Int.gcd]; omega
      rw [eg, ← e]
      exact ⟨_, _, rfl, rfl⟩
  rintro ts1 m1 ⟨o2, o3, rfl, rfl⟩
  rw [← List.map_append, List.length_map, gcdL_full, hg]
  have ew : EvD G.K (tOp (rIxT G.K) (tOp (rIxT G.K) (tVar 0) (tC (.int 1))) (tC (.int 1))) [some (.tup [intsT a, intsT (cLow w)]), some (.int 1), o2, o3, none] m1 (.int w) := ev_ixT (ds := (cLow w).map D.int) (ev_ixT (d := intsT (cLow w)) (ev_var rfl) ev_int rfl) ev_int rfl
  refine s_seq (s_asg (d := .int w) ew ?_)
  show ExS G.K E _ [some (.tup [intsT a, intsT (cLow w)]), some (.int 1), o2, o3, some (.int w)] m1 _
  have pl : pyD (intsT (cLow w)) = some (.tuple [.int 0, .int w, .int w, .int (-w)]) := rfl
  have e4 : (a.map D.int).length = 4 := by rw [List.length_map, ha]
  refine s_ret (EvD.is (d1 := .bl true) (ev_and1 (EvD.is (ev_eq (d1 := .int 1) (d2 := .int 1) (ev_var rfl) ev_int rfl) rfl) (ev_and1 (EvD.is (ev_opB0 (f := fun i j => decide (j < i)) (i := w) (j := 0) (ev_var rfl) ev_int) (congrArg D.bl (decide_eq_true w0)))
    (ev_and1 (EvD.is (ev_eqD (d1 := intsT (cLow w)) (d2 := intsT (cLow w)) (ev_ixT (d := intsT (cLow w)) (ev_var rfl) ev_int rfl) (by unfold intsT cLow; simp only [List.map_cons, List.map_nil]; rw [show -w = 0 - w by omega]; walk_at "ra") pl pl (by rfl) (by rfl)) (congrArg D.bl ?_))
      (EvD.is (ev_eq (d1 := .int ((a.map D.int).length : Int)) (d2 := .int 4) (ev_cb (ea_cons (ev_ixT (d := intsT a) (ev_var rfl) ev_int rfl) ea_nil) cb_lenT) ev_int rfl) (congrArg D.bl (decide_eq_true (by rw [e4]; rfl))))))) rfl) h
  simp [PyData.eqv, PyData.eqvAll]
theorem p__law_told_k07 (h : R__law_told_k07 G ds m P) : ExS G.K E (t__law_told_k07 G E) (startT n__law_told_k07 ds) m (Fin P) := by
  obtain ⟨a, x, y, rfl, ha, sa, hx, hy, h⟩ := h
  obtain ⟨i, j, k, l, rfl⟩ := four ha
  have s : ∀ t ∈ [i, j, k, l], Sz 20 ((t : Int) : Rat) := fun t ht => sz_int20 (sa t ht)
  have h : P (.rt (frD ((((i : Rat) + (j : Rat) * x) + (k : Rat) * y) + (l : Rat) * (x * y))) m) := h
  show ExS G.K E (t__law_told_k07 G E) [some (.tup [.int i, .int j, .int k, .int l]), some (frD x), some (frD y), none, none] m (Fin P)
  refine s_seq (s_asg (d := .lst [frD 1, frD x, frD y, frD (x * y)]) (ev_lst (ea_cons (by rw [frD_one]; walk_at "ra") (ea_cons (ev_var rfl) (ea_cons (ev_var rfl) (ea_cons (e_ltimes (by walk_at "ra") hx hy) ea_nil)))) (by simp)) ?_)
  show ExS G.K E _ [some (.tup [.int i, .int j, .int k, .int l]), some (frD x), some (frD y), some (.lst [frD 1, frD x, frD y, frD (x * y)]), none] m _
  have e : ((([(i : Rat) * 1, (j : Rat) * x, (k : Rat) * y, (l : Rat) * (x * y)] : List Rat).foldl (· + ·) 0) : Rat) = (((i : Rat) + (j : Rat) * x) + (k : Rat) * y) + (l : Rat) * (x * y) := by
    show (((0 + (i : Rat) * 1) + (j : Rat) * x) + (k : Rat) * y) + (l : Rat) * (x * y) = _
    have : (0 : Rat) + (i : Rat) * 1 = i := by grind
    rw [this]
  rw [← e] at h
  let v : D → D := fun d => match d with
    | .int 0 => frD ((i : Rat) * 1) | .int 1 => frD ((j : Rat) * x) | .int 2 => frD ((k : Rat) * y) | _ => frD ((l : Rat) * (x * y))
  have si := s i (by simp)
  have sj := s j (by simp)
  have sk := s k (by simp)
  have sl := s l (by simp)
  have el : lcD (rngD 0 4) (fun _ => true) v = ([(i : Rat) * 1, (j : Rat) * x, (k : Rat) * y, (l : Rat) * (x * y)] : List Rat).map frD := rfl
  have hmul : ∀ (t : Int) (z : Rat) (n1 : Nat) (w : Int) (tsx : TSt) (mx : Mem), Sz 20 (t : Rat) → Sz n1 z → 20 + n1 < 9000 → tsx = [some (.tup [.int i, .int j, .int k, .int l]), some (frD x), some (frD y), some (.lst [frD 1, frD x, frD y, frD (x * y)]), some (.int w)] → atI [D.int i, .int j, .int k, .int l] w = some (.int t) → atI [frD 1, frD x, frD y, frD (x * y)] w = some (frD z) →
      EvD G.K (tCall (SpD G.K (R__law_times G)) [] E0 (tCons (tTup (tCons (tOp (rIxT G.K) (tVar 0) (tVar 4)) (tCons (tC (.int 1)) tNil))) (tCons (tOp (rIxL G.K) (tVar 3) (tVar 4)) tNil))) tsx mx (frD ((t : Rat) * z)) := by
    rintro t z n1 w tsx mx st sz b rfl h1 h2
    exact e_ltimes (ea_cons (by rw [frD_int]; exact ev_tup (ea_cons (ev_ixT (ev_var rfl) (ev_var rfl) h1) (ea_cons ev_int ea_nil)) (by simp)) (ea_cons (ev_ixL (ev_var rfl) (ev_var rfl) h2) ea_nil)) st sz b
  refine s_ret (ev_call (ea_cons (EvD.is (ev_lc (wk_rng1 (n := 4) (by walk_at "ra") (by decide) (by decide)) (fun _ => true) v (by decide) (fun d l' acc hd => ⟨_, gt_nm, et_yes, fun _ => ?_⟩)) (congrArg D.lst el)) ea_nil) ⟨_, 500, rfl, ?_, (show (4 + 1) * (500 + 1) + 500 ≤ 8000 by decide), rfl, rfl⟩) h
  · have hd : d = .int 0 ∨ d = .int 1 ∨ d = .int 2 ∨ d = .int 3 := by
      have e : rngD 0 4 = [.int 0, .int 1, .int 2, .int 3] := rfl
      rw [e] at hd
      simpa using hd
    rcases hd with rfl | rfl | rfl | rfl
    · exact hmul i 1 1 0 _ _ si sz_one (by decide) rfl rfl rfl
    · exact hmul j x _ 1 _ _ sj hx (by decide) rfl rfl rfl
    · exact hmul k y _ 2 _ _ sk hy (by decide) rfl rfl rfl
    · exact hmul l (x * y) _ 3 _ _ sl (hx.mul hy) (by decide) rfl rfl rfl
  · intro q hq
    simp only [List.mem_cons, List.not_mem_nil, or_false] at hq
    rcases hq with rfl | rfl | rfl | rfl
    · exact (si.mul sz_one).mono (by decide)
    · exact (sj.mul hx).mono (by decide)
    · exact (sk.mul hy).mono (by decide)
    · exact (sl.mul (hx.mul hy)).mono (by decide)
theorem p__law_refused_k07 (hx : PySem.W.exmOne G.K (.ref G.cBadRun) (.ref G.cBadRun) = some true) (h : R__law_refused_k07 G ds m P) : ExS G.K E (t__law_refused_k07 G E) (startT n__law_refused_k07 ds) m (Fin P) := by
  obtain ⟨a, b, u, d, j, k, e, rfl, ha, hb, sa, sb, hu, hd, fj, hc, p⟩ := h
  show ExS G.K E (t__law_refused_k07 G E) [some (.tup [intsT a, intsT b]), some (coinD G u d), some j, some (.int k), none, none] m (Fin P)
  refine s_seq (s_asg (d := .non) (by walk_at "ra") ?_)
  show ExS G.K E _ [some (.tup [intsT a, intsT b]), some (coinD G u d), some j, some (.int k), some .non, none] m (Fin P)
  refine s_seq (s_tryE (tb := tb0__law_refused_k07 G) (fun _ _ _ _ h => h) fun E' => s_if (b := decide (k = 0)) (et_test (ev_eq (d1 := .int k) (d2 := .int 0) (by walk_at "ra") ev_int rfl)) (fun c => ?_) (fun c => ?_))
  · have c := of_decide_eq_true c
    rcases hc with ⟨cj, rfl⟩ | ⟨_, k0, _, _⟩
    · refine s_dropX (ev_callX (EvL.p (ds := [.tup [intsT a, intsT b], coinD G u d, e]) (by walk_at "ra") ⟨a, b, u, d, e, rfl, ha, hb, sa, sb, hu, hd, fj, fun z => absurd z (by rw [cj]; decide), ?_⟩))
      rw [runOc_no cj]
      exact catch_val hx (fun _ => rfl) (fun _ _ => rfl) (s_ret (ev_var rfl) p)
    · exact absurd c k0
  · rcases hc with ⟨cj, rfl⟩ | ⟨cj, k0, ck, rfl⟩
    · refine s_dropX (ev_callX (EvL.p (ds := [.tup [intsT a, intsT b], coinD G u d, e, .int k]) (by walk_at "ra") ⟨a, b, u, d, e, .int k, rfl, ha, hb, sa, sb, hu, hd, fj, rfl, fun z => absurd z (by rw [cj]; decide), ?_⟩))
      rw [runOc_no cj]
      exact catch_val hx (fun _ => rfl) (fun _ _ => rfl) (s_ret (ev_var rfl) p)
    · refine s_dropX (ev_callX (EvL.p (ds := [.tup [intsT a, intsT b], coinD G u d, j, .int k]) (by walk_at "ra") ⟨a, b, u, d, j, .int k, rfl, ha, hb, sa, sb, hu, hd, fj, rfl, fun _ z => absurd z (by rw [ck]; decide), ?_⟩))
      rw [runOc_ok cj, runOc_no ck]
      exact catch_val hx (fun _ => rfl) (fun _ _ => rfl) (s_ret (ev_var rfl) p)
theorem sm_c {u d : Int} (hu : Share u) (hd : Share d) : small1 (cTop (pOf d u)) ∧ small1 (cLow (pOf d u).den) := by
  obtain ⟨n1, n2, n3⟩ := num_ge hd hu
  have n4 := (pOf d u).den_pos
  refine ⟨fun x hx => ?_, small_low (by omega) (by omega)⟩
  unfold cTop at hx
  simp only [List.mem_cons, List.not_mem_nil, or_false] at hx
  have : (2 : Nat) ^ 20 = 1048576 := by decide
  omega
theorem sm_m {u d : Int} (hu : Share u) (hd : Share d) : small1 (mTop (pOf u d).num (pOf d u).num) ∧ small1 (cLow ((pOf u d).num * (pOf d u).num)) ∧ 0 < (pOf u d).num * (pOf d u).num ∧ (pOf u d).num * (pOf d u).num < 1000 := by
  obtain ⟨a1, a2, _⟩ := num_ge hu hd
  obtain ⟨b1, b2, _⟩ := num_ge hd hu
  generalize (pOf u d).num = a at *
  generalize (pOf d u).num = b at *
  have pab := prod_le a1 a2 b1 b2
  have paa := prod_le a1 a2 a1 a2
  have pbb := prod_le b1 b2 b1 b2
  refine ⟨fun x hx => ?_, small_low (by omega) (by omega), by omega, by omega⟩
  unfold mTop at hx
  have e : (a + b) * (a + b) = a * a + 2 * (a * b) + b * b := by grind
  rw [e] at hx
  simp only [List.mem_cons, List.not_mem_nil, or_false] at hx
  have : (2 : Nat) ^ 20 = 1048576 := by decide
  generalize a * a = aa at *
  generalize b * b = bb at *
  generalize a * b = ab at *
  omega
theorem e_value {a b : List Int} {u d j k : Int} (h : EvL G.K tl ts m [.tup [intsT a, intsT b], coinD G u d, .int j, .int k]) (la : a.length = 4) (lb : b.length = 4) (sa : small1 a) (sb : small1 b) (hu : Share u) (hd : Share d) (hj : Run j) (hk : Run k) (hz : recR b (pOf u d ^ (j - 1).toNat) (pOf d u ^ (k - 1).toNat) ≠ 0) :
    EvD G.K (tCall (SpD G.K (R_value G)) [] E tl) ts m (frD (recR a (pOf u d ^ (j - 1).toNat) (pOf d u ^ (k - 1).toNat) / recR b (pOf u d ^ (j - 1).toNat) (pOf d u ^ (k - 1).toNat))) :=
  ev_call h ⟨a, b, u, d, .int j, .int k, rfl, la, lb, sa, sb, hu, hd, rfl, rfl, fun _ _ => hz, by rw [runOc_ok (within_run hj), runOc_ok (within_run hk)]; exact ⟨rfl, rfl⟩⟩
theorem e_far {a b : List Int} {u d j : Int} (h : EvL G.K tl ts m [.tup [intsT a, intsT b], coinD G u d, .int j]) (la : a.length = 4) (lb : b.length = 4) (sa : small1 a) (sb : small1 b) (hu : Share u) (hd : Share d) (hj : Run j) (hz : recR b (pOf u d ^ (j - 1).toNat) 0 ≠ 0) :
    EvD G.K (tCall (SpD G.K (R_far G)) [] E tl) ts m (frD (recR a (pOf u d ^ (j - 1).toNat) 0 / recR b (pOf u d ^ (j - 1).toNat) 0)) :=
  ev_call h ⟨a, b, u, d, .int j, rfl, la, lb, sa, sb, hu, hd, rfl, fun _ => hz, by rw [runOc_ok (within_run hj)]; exact ⟨rfl, rfl⟩⟩
theorem p_law_k07 (h : R_law G ds m P) : ExS G.K E (t_law_k07 G E) (startT n_law_k07 ds) m (Fin P) := by
  obtain ⟨ns, rfl, rfl, hn, p⟩ := h
  show ExS G.K E (t_law_k07 G E) [some (.lst (ns.map .int)), none, none, none, none, none, none, none, none, none, none, none, none] [] (Fin P)
  refine s_seq (s_asgP (ev_lstM (EvL.p (ds := [.lst (ns.map .int), .int 0, .int 227, .int 0]) (by walk_at "ra") ⟨by simp, fun l _ => ?_⟩)))
  show ExS G.K E _ [some (.lst (ns.map .int)), some (.ref l), none, none, none, none, none, none, none, none, none, none, none] [(l, rowD ns 0 227 0)] (Fin P)
  refine s_seq (s_asgP (ev_callP (EvL.p (ds := [.ref l]) (by walk_at "ra") ⟨l, rfl, 0, _, rfl, row0 hn (by decide), fun u d r1 hab hr1 => ?_⟩)))
  obtain ⟨su, sd⟩ := drawn_share hab
  have zp := sz_pOf su sd
  have zq := sz_pOf sd su
  obtain ⟨sc1, sc2⟩ := sm_c su sd
  obtain ⟨sm1, sm2, w1, w2⟩ := sm_m su sd
  have nd := (num_ge sd su).2.2
  have dp := (pOf d u).den_pos
  show ExS G.K E _ [some (.lst (ns.map .int)), some (.ref l), some (.tup [.int u, .int d]), none, none, none, none, none, none, none, none, none, none] [(l, r1)] _
  refine s_seq (s_par (d1 := coinD G u d) (d2 := .lst [frD (pOf u d), frD (pOf d u)]) (ea_cons (ev_coinD (by walk_at "ra") su sd) (ea_cons (e_shares (by walk_at "ra") su sd) ea_nil)) ?_)
  show ExS G.K E _ [some (.lst (ns.map .int)), some (.ref l), some (.tup [.int u, .int d]), some (coinD G u d), some (.lst [frD (pOf u d), frD (pOf d u)]), none, none, none, none, none, none, none, none] [(l, r1)] _
  refine s_seq (s_par (d1 := cForm u d) (d2 := mForm u d) (ea_cons (ev_call (ds := [coinD G u d]) (by walk_at "ra") ⟨u, d, rfl, su, sd, rfl, rfl⟩) (ea_cons (ev_call (ds := [coinD G u d]) (by walk_at "ra") ⟨u, d, rfl, su, sd, rfl, rfl⟩) ea_nil)) ?_)
  show ExS G.K E _ [some (.lst (ns.map .int)), some (.ref l), some (.tup [.int u, .int d]), some (coinD G u d), some (.lst [frD (pOf u d), frD (pOf d u)]), some (cForm u d), some (mForm u d), none, none, none, none, none, none] [(l, r1)] _
  refine s_seq (s_if0 (et_or0 (EvT.is (et_not (et_B (ev_call (d := .bl true) (ds := [cForm u d]) (by walk_at "ra") ⟨_, _, rfl, rfl, by omega, by omega, gcd_c su sd, rfl, rfl⟩))) rfl) (EvT.is (et_not (et_B (ev_call (d := .bl true) (ds := [mForm u d]) (by walk_at "ra") ⟨_, _, rfl, rfl, w1, w2, gcd_m su sd, rfl, rfl⟩))) rfl)) (s_next ?_))
  refine s_seq (s_for (wk_rng1 (n := 6) (by walk_at "ra") (by decide) (by decide))
    (fun i ts m => ∃ r o7 o8 o9, RowOk r ∧ m = [(l, r)] ∧ ts = [some (.lst (ns.map .int)), some (.ref l), some (.tup [.int u, .int d]), some (coinD G u d), some (.lst [frD (pOf u d), frD (pOf d u)]), some (cForm u d), some (mForm u d), o7, o8, o9, none, none, none])
    ⟨r1, none, none, none, hr1, rfl, rfl⟩ (fun _ _ _ _ => trivial) ?_ ?_)
  · rintro i dt ts1 m1 hi ⟨r, o7, o8, o9, hr, rfl, rfl⟩
    refine ⟨_, _, gt_nm, ?_⟩
    show ExS G.K E _ [some (.lst (ns.map .int)), some (.ref l), some (.tup [.int u, .int d]), some (coinD G u d), some (.lst [frD (pOf u d), frD (pOf d u)]), some (cForm u d), some (mForm u d), some dt, o8, o9, none, none, none] [(l, r)] _
    refine s_seq (s_asgGP (ev_callP (EvL.p (ds := [.ref l, .int 40]) (by walk_at "ra") ⟨l, 40, rfl, by decide, by decide, 0, r, rfl, hr, fun j k r2 j1 j2 k1 k2 hr2 => ⟨_, _, gl_two, ?_⟩⟩)))
    have rj : Run j := ⟨j1, j2⟩
    have rk : Run k := ⟨k1, k2⟩
    obtain ⟨vc1, vc2⟩ := value_c su sd rj rk
    obtain ⟨vm1, vm2⟩ := value_m su sd rj rk
    obtain ⟨fc1, fc2⟩ := far_c su sd rj
    obtain ⟨fm1, fm2⟩ := far_m su sd rj
    show ExS G.K E _ [some (.lst (ns.map .int)), some (.ref l), some (.tup [.int u, .int d]), some (coinD G u d), some (.lst [frD (pOf u d), frD (pOf d u)]), some (cForm u d), some (mForm u d), some dt, some (.int j), some (.int k), none, none, none] [(l, r2)] _
    refine s_seq (s_if0 (et_or0 (t_neF0 (e_value (a := cTop (pOf d u)) (b := cLow (pOf d u).den) (by walk_at "ra") rfl rfl sc1 sc2 su sd rj rk vc1) (e_chance (by walk_at "ra") su sd rj rk (by omega) (by omega)) vc2)
      (t_neF0 (e_value (a := mTop (pOf u d).num (pOf d u).num) (b := cLow ((pOf u d).num * (pOf d u).num)) (by walk_at "ra") rfl rfl sm1 sm2 su sd rj rk vm1) (e_mean (by walk_at "ra") su sd rj rk (by omega) (by omega)) vm2)) (s_next ?_))
    refine s_if0 (et_or0 (t_neF0 (q := 1) (e_far (a := cTop (pOf d u)) (b := cLow (pOf d u).den) (by walk_at "ra") rfl rfl sc1 sc2 su sd rj fc1) (by rw [frD_one]; walk_at "ra") fc2)
      (t_neF0 (e_far (a := mTop (pOf u d).num (pOf d u).num) (b := cLow ((pOf u d).num * (pOf d u).num)) (by walk_at "ra") rfl rfl sm1 sm2 su sd rj fm1) (e_meanH (by walk_at "ra") su sd rj) fm2)) (s_next ?_)
    exact ⟨_, _, _, _, hr2, rfl, rfl⟩
  rintro ts1 m1 ⟨r, o7, o8, o9, hr, rfl, rfl⟩
  refine s_seq (s_asgP (ev_cbP (ea_consP (ev_lcI (wk_rng1 (n := 4) (by walk_at "ra") (by decide) (by decide)) (fun i acc m => ∃ r xs, RowOk r ∧ m = [(l, r)] ∧ acc = xs.map D.int ∧ xs.length = i ∧ small1 xs)
    ⟨r, [], hr, rfl, rfl, rfl, fun x hx => nomatch hx⟩ (by decide) (fun _ _ _ _ _ _ => trivial) (by rintro i acc m ⟨r, xs, _, _, rfl, rfl, _⟩; rw [List.length_map]; exact Nat.le_refl _) ?_ ?_))))
  · rintro i dt acc m1 l' hi ⟨r, xs, hr, rfl, rfl, hl, sx⟩ hl'
    refine ⟨_, gt_nm, EvT.p et_yes ?_⟩
    rw [if_pos rfl]
    show EvP G.K _ [some (.lst (ns.map .int)), some (.ref l), some (.tup [.int u, .int d]), some (coinD G u d), some (.lst [frD (pOf u d), frD (pOf d u)]), some (cForm u d), some (mForm u d), o7, o8, some dt, none, none, none] ((l', .lst (xs.map .int)) :: [(l, r)]) _
    refine ev_opP (ev_taken (r := r) (k := 1) (by walk_at "ra") (by decide) (by decide) rfl hr fun x r' h0 h9 hr' => EvD.p ev_int ⟨.int (x - 4), od_I0 fun _ => .int _, [(l, r')], rfl, r', xs ++ [x - 4], hr', rfl, by simp, by simp [hl], fun z hz => ?_⟩)
    rcases List.mem_append.mp hz with hz | hz
    · exact sx z hz
    · have e : (2 : Nat) ^ 20 = 1048576 := by decide
      simp only [List.mem_cons, List.not_mem_nil, or_false] at hz
      omega
  rintro acc m1 ⟨r, xs, hr, rfl, rfl, hl, sx⟩
  have hl : xs.length = 4 := hl
  refine ea_nilP ⟨_, cb_tupleL, ?_⟩
  show ExS G.K E _ [some (.lst (ns.map .int)), some (.ref l), some (.tup [.int u, .int d]), some (coinD G u d), some (.lst [frD (pOf u d), frD (pOf d u)]), some (cForm u d), some (mForm u d), o7, o8, o9, some (intsT xs), none, none] [(l, r)] _
  refine s_seq (s_asg (d := frD (recR xs (pOf u d) (pOf d u * pOf d u))) (ev_call (ds := [intsT xs, frD (pOf u d), frD (pOf d u * pOf d u)]) (ea_cons (ev_var rfl) (ea_cons (ev_ixL (ev_var rfl) ev_int rfl) (ea_cons (e_ltimes (ea_cons (ev_ixL (ev_var rfl) ev_int rfl) (ea_cons (ev_ixL (ev_var rfl) ev_int rfl) ea_nil)) zq zq) ea_nil))) ⟨xs, _, _, rfl, hl, sx, zp.mono (by decide), (zq.mul zq).mono (by decide), rfl, rfl⟩) ?_)
  show ExS G.K E _ [some (.lst (ns.map .int)), some (.ref l), some (.tup [.int u, .int d]), some (coinD G u d), some (.lst [frD (pOf u d), frD (pOf d u)]), some (cForm u d), some (mForm u d), o7, o8, o9, some (intsT xs), some (frD (recR xs (pOf u d) (pOf d u * pOf d u))), none] [(l, r)] _
  have one : ∀ x y : Rat, recR [1, 0, 0, 0] x y = 1 := fun x y => by
    show ((((1 : Int) : Rat) + ((0 : Int) : Rat) * x) + ((0 : Int) : Rat) * y + ((0 : Int) : Rat) * (x * y)) = 1
    have e0 : ((0 : Int) : Rat) = 0 := rfl
    have e1 : ((1 : Int) : Rat) = 1 := rfl
    rw [e0, e1]; grind
  have s1 : small1 [1, 0, 0, 0] := by
    intro x hx
    have e : (2 : Nat) ^ 20 = 1048576 := by decide
    simp only [List.mem_cons, List.not_mem_nil, or_false] at hx
    omega
  refine s_seq (s_if0 (t_neF0 (e_value (a := xs) (b := [1, 0, 0, 0]) (j := 2) (k := 3) (ea_cons (ev_tup (ea_cons (ev_var rfl) (ea_cons (by unfold intsT; simp only [List.map_cons, List.map_nil]; walk_at "ra") ea_nil)) (by simp)) (by walk_at "ra")) hl rfl sx s1 su sd ⟨by decide, by decide⟩ ⟨by decide, by decide⟩ (by rw [one]; decide +kernel)) (ev_var rfl) ?_) (s_next ?_))
  · rw [one]
    have e1 : pOf u d ^ ((2 : Int) - 1).toNat = pOf u d := by show pOf u d ^ 1 = _; rw [Rat.pow_one]
    have e2 : pOf d u ^ ((3 : Int) - 1).toNat = pOf d u * pOf d u := by show pOf d u ^ 2 = _; rw [Rat.pow_succ, Rat.pow_one]
    rw [e1, e2]
    generalize recR xs (pOf u d) (pOf d u * pOf d u) = z
    rw [Rat.div_def]; grind
  refine s_seq (s_asgP (ev_opP (EvD.p (d := .lst badL5) (ev_lst (by unfold badL5; walk_at "ra") (by decide)) (ev_taken (r := r) (k := 0) (by walk_at "ra") (by decide) (by decide) rfl hr fun x r3 h0 h9 hr3 => ?_))))
  obtain ⟨b, eb, ob, wb⟩ := bad5 h0 h9
  refine ⟨b, od_ixL eb, ?_⟩
  show ExS G.K E _ [some (.lst (ns.map .int)), some (.ref l), some (.tup [.int u, .int d]), some (coinD G u d), some (.lst [frD (pOf u d), frD (pOf d u)]), some (cForm u d), some (mForm u d), o7, o8, o9, some (intsT xs), some (frD (recR xs (pOf u d) (pOf d u * pOf d u))), some b] [(l, r3)] _
  have fb := ob.1
  refine s_seq (s_if0 (et_or0 (t_toldN ob (ev_call (ds := [cForm u d, coinD G u d, b, .int 1]) (by walk_at "ra") ⟨_, _, u, d, b, 1, b, rfl, rfl, rfl, sc1, sc2, su, sd, fb, .inl ⟨wb, rfl⟩, rfl, rfl⟩) (ev_lst (by walk_at "ra") (by simp)))
    (t_toldN (odd_int 41) (ev_call (ds := [cForm u d, coinD G u d, .int 1, .int 41]) (by walk_at "ra") ⟨_, _, u, d, .int 1, 41, .int 41, rfl, rfl, rfl, sc1, sc2, su, sd, rfl, .inr ⟨rfl, by decide, rfl, rfl⟩, rfl, rfl⟩) (ev_lst (by walk_at "ra") (by simp)))) (s_next ?_))
  exact s_ret (e_told ob (ev_call (ds := [cForm u d, coinD G u d, b, .int 0]) (by walk_at "ra") ⟨_, _, u, d, b, 0, b, rfl, rfl, rfl, sc1, sc2, su, sd, fb, .inl ⟨wb, rfl⟩, rfl, rfl⟩) (ev_lst (by walk_at "ra") (by simp))) (p _)
end RA
set_option Elab.async false
set_option linter.all false
set_option maxRecDepth 100000
set_option maxHeartbeats 1000000
namespace RA
open PySem PySem.Spec PyProof.Rows L2 Evl
/-! the walk over a reading -/
local macro_rules | `(tactic| walk_at "ra1") => `(tactic| first
  | exact ev_int
  | exact ev_bl
  | exact ev_non
  | exact ev_str
  | exact ev_ty
  | exact ev_ref
  | (refine ev_var ?_; rfl)
  | exact ea_nil
  | apply ea_cons
  | apply ev_opI0
  | apply ev_opB0
  | apply ev_opI
  | refine ev_neg ?_
  | apply ev_ixT
  | (show atI _ _ = some _; rfl)
  | refine ev_tup ?_ (by first | decide | simp)
  | apply ev_cb
  | apply ev_call
  | refine et_test ?_
  | refine et_B ?_
  | refine et_not ?_
  | exact et_yes)
local macro_rules | `(tactic| walk_at "ra") => `(tactic| repeat' (walk_at "ra1"))
variable {G : Gam} {ds : List D} {ts : TSt} {m : Mem} {P : Oc → Prop} {E : XK} {tl : TA}
/-! what is no longer asked for is let go -/
theorem drop_pre {K : PySem.W.Frag} {H : Hp} {m : Mem} : ∀ pre : Mem, MemOk K H (pre ++ m) → MemOk K H m ∧ Ex (vis (pre ++ m) H) (vis m H)
  | [], h => ⟨h, Ex.refl _⟩
  | (l, d) :: pre, h => by
    obtain ⟨a, b⟩ := drop_pre pre (MemOk.drop (l := l) (d := d) h)
    exact ⟨a, Ex.trans (vis_cons_ex (a := l) (d := d)) b⟩
theorem ExS.forget {K : PySem.W.Frag} {t : TS} (h : ExS K E t ts m fun o => match o with
    | .rt d m' => ∃ pre m1, m' = pre ++ m1 ∧ P (.rt d m1)
    | o => P o) : ExS K E t ts m P := fun σ H De M S kk => h σ H De M S fun o p => by
  cases o with
  | rt d m' =>
    obtain ⟨pre, m1, rfl, p⟩ := p
    intro v H1 M1 x1 r1
    obtain ⟨a, b⟩ := drop_pre pre M1
    exact kk _ p v H1 a (x1.trans b) (r1.mono b)
  | nx ts m => exact kk _ p
  | bk ts m => exact kk _ p
  | ct ts m => exact kk _ p
  | ra C fs m => exact kk _ p
theorem p_need_count (h : R_need_count G ds m P) : ExS G.K E (t_need_count G E) (startT n_need_count ds) m (Fin P) := by
  obtain ⟨d, lo, hi, rfl, hf, h⟩ := h
  show ExS G.K E (t_need_count G E) [some d, some (.int lo), some (.int hi)] m (Fin P)
  unfold countOc at h
  refine s_if (b := !withinD d lo hi) (et_not (et_B (ev_call (by walk_at "ra") ⟨d, lo, hi, rfl, hf, rfl, rfl⟩))) (fun c => ?_) (fun c => ?_)
  · rw [Bool.not_eq_true'] at c
    rw [c] at h
    exact s_raise1 (by walk_at "ra") h
  · rw [Bool.not_eq_false'] at c
    rw [c] at h
    exact s_next h
theorem s_need_count {t : TS} {PO : Oc → Prop} {d : D} {lo hi : Int} (ha : EvL G.K tl ts m [d, .int lo, .int hi]) (hd : Flat d) {o : Oc} (hP : PO (countOc G d lo hi m o))
    (hg : withinD d lo hi = true → PO o → ExS G.K E t ts m PO) : ExS G.K E (tSeq (tDrop (tCall (SpD G.K (R_need_count G)) [] E tl)) t) ts m PO := by
  refine s_seq (s_dropX (ev_callX (ha.p ⟨d, lo, hi, rfl, hd, ?_⟩)))
  unfold countOc at hP ⊢
  cases c : withinD d lo hi with
  | false =>
    rw [c] at hP
    exact hP
  | true =>
    rw [c] at hP
    exact hg c hP
theorem fin_count {d : D} {lo hi : Int} {o : Oc} (h : P (countOc G d lo hi m o)) (h0 : P o → Fin P o) : Fin P (countOc G d lo hi m o) := by
  unfold countOc at *
  split
  · rename_i c; rw [if_pos c] at h; exact h0 h
  · rename_i c; rw [if_neg c] at h; exact h
theorem p_later_states (h : R_later_states G ds m P) : ExS G.K E (t_later_states G E) (startT n_later_states ds) m (Fin P) := by
  obtain ⟨j, k, s, rfl, h⟩ := h
  show ExS G.K E (t_later_states G E) [some (.int j), some (.int k), some (.int s), none, none] m (Fin P)
  have hmx : ∀ {mx : Int} {tsx : TSt} {mm : Mem}, tsx[2]? = some (some (.int s)) → EvL G.K (tCons (tLst (tCons (tVar 2) (tCons (tC (.int 0)) tNil))) tNil) tsx mm [.lst ([s, 0].map .int)] := fun hs => ea_cons (ev_lst (ea_cons (ev_var hs) (ea_cons ev_int ea_nil)) (by simp)) ea_nil
  refine s_seq (s_par (d1 := .int (rawU s)) (d2 := .int (rawD s)) (ea_cons (EvD.is (ev_opI0 (ev_cb (hmx (mx := 0) rfl) (cb_max (x := if 0 < s then s else 0) (by split <;> simp) (by intro y hy; simp only [List.mem_cons, List.not_mem_nil, or_false] at hy; split <;> omega))) ev_int) (by unfold rawU; split <;> rfl))
    (ea_cons (EvD.is (ev_opI0 (ev_cb (hmx (mx := 0) rfl) (cb_min (x := if s < 0 then s else 0) (by split <;> simp) (by intro y hy; simp only [List.mem_cons, List.not_mem_nil, or_false] at hy; split <;> omega))) ev_int) (by unfold rawD; split <;> rfl)) ea_nil)) ?_)
  show ExS G.K E _ [some (.int j), some (.int k), some (.int s), some (.int (rawU s)), some (.int (rawD s))] m _
  refine s_ret (ev_tup (ea_cons (ev_if (b := decide (rawU s < j)) (by walk_at "ra") (fun c => EvD.is (d := .int (rawU s)) (by walk_at "ra") (by unfold nextU; rw [if_pos (of_decide_eq_true c)]; rfl)) (fun c => EvD.is (d := .non) (by walk_at "ra") (by unfold nextU; rw [if_neg (of_decide_eq_false c)]; rfl)))
    (ea_cons (ev_if (b := decide (-k < rawD s)) (by walk_at "ra") (fun c => EvD.is (d := .int (rawD s)) (by walk_at "ra") (by unfold nextDn; rw [if_pos (of_decide_eq_true c)]; rfl)) (fun c => EvD.is (d := .non) (by walk_at "ra") (by unfold nextDn; rw [if_neg (of_decide_eq_false c)]; rfl))) ea_nil)) (by simp)) h
/-- found[there] = found.get(there, 0) + many * share, where there is one -/
theorem none_body {acc : List (Int × Int)} {w y : Int} {o : Option Int} {f : Addr} (h7 : ts[7]? = some (some (.ref f))) (h9 : ts[9]? = some (some (.int w))) (h10 : ts[10]? = some (some (optD o))) (h11 : ts[11]? = some (some (.int y))) (hk : m[0]? = some (f, .dic (kvI acc))) (nd : (acc.map (·.1)).Nodup) (hl : acc.length < 100000)
    (hw : w.natAbs < 2 ^ 200) (hy : Share y) (p : P (.nx ts (m.set 0 (f, .dic (kvI (addO acc (w * y) o)))))) :
    ExS G.K E (tIfS (tB (tNotN (tVar 10))) (sDPut (tVar 7) (tVar 10) (tOp (rI0 fun i j => .int (i + j)) (tDGet2 (tVar 7) (tVar 10) (tC (.int 0))) (tOp (rI CMulW fun i j => .int (i * j)) (tVar 9) (tVar 11)))) tNext) ts m P := by
  unfold Share at hy
  cases o with
  | none =>
    refine s_if0 (et_B (EvD.is (ev_notN (d := .non) (x := true) (ev_var h10) rfl) rfl)) (s_next ?_)
    have e : m.set 0 (f, .dic (kvI acc)) = m := by
      apply List.ext_getElem?
      intro i
      by_cases c : i = 0
      · subst c
        have hlt : 0 < m.length := (List.getElem?_eq_some_iff.mp hk).1
        rw [List.getElem?_set_self hlt, hk]
      · rw [List.getElem?_set_ne (fun z => c z.symm)]
    rw [show addO acc (w * y) none = acc from rfl, e] at p
    exact p
  | some t =>
    have h10 : ts[10]? = some (some (.int t)) := h10
    refine s_if1 (et_B (EvD.is (ev_notN (d := .int t) (x := false) (ev_var h10) rfl) rfl)) ?_
    refine s_dput (i := 0) (a := f) (kvs := kvI acc) (k := .inl t) (d := .int (lookI acc t + w * y)) (ev_opI0 (EvD.is (ev_dget2 (i := 0) (k := .inl t) (ev_var h7) (ev_var h10) ev_int hk) (look_val t acc)) (ev_opI (ev_var h9) (ev_var h11) (cmulW hw (m := 4) (by omega) (by decide)))) (ev_var h7) (ev_var h10) hk (by unfold kvI; rw [List.length_map]; exact hl) ?_
    rw [put_add t (w * y) acc nd]
    exact p
theorem kvI_get {ivs : List (Int × Int)} {i : Nat} {d : D} (h : ((kvI ivs).map fun p => D.tup [kD p.1, p.2])[i]? = some d) : ∃ s w, ivs[i]? = some (s, w) ∧ d = .tup [.int s, .int w] := by
  unfold kvI at h
  rw [List.map_map, List.getElem?_map] at h
  cases e : ivs[i]? with
  | none => rw [e] at h; cases h
  | some q =>
    rw [e] at h
    cases h
    exact ⟨q.1, q.2, rfl, rfl⟩
theorem sum_bound {B : Nat} : ∀ ivs : List (Int × Int), (∀ p ∈ ivs, p.2.natAbs ≤ B) → (List.sum (ivs.map fun p : Int × Int => p.2)).natAbs ≤ ivs.length * B
  | [], _ => by simp
  | p :: r, h => by
    have a := h p List.mem_cons_self
    have b := sum_bound r fun q hq => h q (List.mem_cons_of_mem _ hq)
    simp only [List.map_cons, List.sum_cons, List.length_cons, Nat.succ_mul]
    omega
theorem whole_small {u d : Int} (hu : Share u) (hd : Share d) (n : Nat) (hn : n ≤ 100) : ((u + d) ^ n).natAbs < 2 ^ 501 ∧ (u + d) ^ n ≠ 0 := by
  unfold Share at hu hd
  refine ⟨two_lt (pow_lt (n := 5) (by omega) (by decide) n) (by omega), ?_⟩
  have := Int.pow_pos (n := u + d) (m := n) (by omega)
  omega
theorem p_none_in (T : CoinOk G) (h : R_none_in G ds m P) : ExS G.K E (t_none_in G E) (startT n_none_in ds) m (Fin P) := by
  obtain ⟨u, d, j, k, n, rfl, hu, hd, fj, fk, fn, h9, h⟩ := h
  show ExS G.K E (t_none_in G E) [some (coinD G u d), some j, some k, some n, none, none, none, none, none, none, none, none] m (Fin P)
  refine s_need_runs (d := j) (e := k) (most := 40) (o := countOc G n 0 200 m (.rt (frD (noneR u d (intD j) (intD k) (intD n))) m)) (by walk_at "ra") fj fk (fin_run h fun h => fin_run h fun h => fin_count h id) (fun cj ck h => ?_)
  refine s_need_count (d := n) (lo := 0) (hi := 200) (by walk_at "ra") fn h (fun cn h => ?_)
  have h9 := h9 cn
  obtain ⟨ej, j1, j2⟩ := within_int cj
  obtain ⟨ek, k1, k2⟩ := within_int ck
  obtain ⟨en, n1, n2⟩ := within_int cn
  rw [ej, ek, en]
  generalize intD j = j at *
  generalize intD k = k at *
  generalize intD n = n at *
  show ExS G.K E _ [some (coinD G u d), some (.int j), some (.int k), some (.int n), none, none, none, none, none, none, none, none] m (Fin P)
  refine ExS.forget ?_
  refine s_seq (s_parP (ea_consP (ev_disp (kds := [(.inl 0, .int 1)]) (fun x _ => ep_cons ev_int ev_int ep_nil) (by simp) fun x hx => ea_consP (EvD.p ev_int (ea_nilP ⟨_, _, rfl, ?_⟩)))))
  show ExS G.K E _ [some (coinD G u d), some (.int j), some (.int k), some (.int n), some (.ref x), some (.int 1), none, none, none, none, none, none] ((x, .dic (kvI [(0, 1)])) :: m) _
  refine s_seq (s_for (wk_rng1 (n := n) (by walk_at "ra") (by omega) (by omega))
    (fun i ts1 m1 => ∃ x pre ivs o6 o7 o8 o9 o10 o11, i ≤ n.toNat ∧ TabOk u d j k i ivs ∧ m1 = (x, .dic (kvI ivs)) :: (pre ++ m) ∧ ts1 = [some (coinD G u d), some (.int j), some (.int k), some (.int n), some (.ref x), some (.int ((u + d) ^ i)), o6, o7, o8, o9, o10, o11])
    ⟨x, [], [(0, 1)], none, none, none, none, none, none, by omega, tab0 u d j k, rfl, by rw [Int.pow_zero]⟩ (fun _ _ _ _ => trivial) ?_ ?_)
  · rintro i dt ts1 m1 hi ⟨x, pre, ivs, o6, o7, o8, o9, o10, o11, hl, tab, rfl, rfl⟩
    have il : i < n.toNat := by
      have := (List.getElem?_eq_some_iff.mp hi).1
      simpa [rngD] using this
    have i9 : i ≤ 9 := by omega
    have len9 : ivs.length ≤ 512 := Nat.le_trans tab.len (Nat.le_trans (Nat.pow_le_pow_right (by decide) i9) (by decide))
    refine ⟨_, _, gt_nm, ?_⟩
    refine s_seq (s_asgP (ev_dnew fun f hf => ?_))
    show ExS G.K E _ [some (coinD G u d), some (.int j), some (.int k), some (.int n), some (.ref x), some (.int ((u + d) ^ i)), some dt, some (.ref f), o8, o9, o10, o11] ((f, .dic []) :: (x, .dic (kvI ivs)) :: (pre ++ m)) _
    refine s_seq (s_lock (k := 1) (a := x) (kvs := kvI ivs) rfl fun o ws => s_for (wk_items (k := 1) (a := x) (o := o) (ws := ws) (kvs := kvI ivs) (ev_var rfl) rfl)
      (fun i2 ts2 m2 => ∃ acc o8 o9 o10 o11, i2 ≤ ivs.length ∧ acc = (ivs.take i2).foldl (fun acc p => addO (addO acc (p.2 * u) (nextU j p.1)) (p.2 * d) (nextDn k p.1)) [] ∧ PartOk (2 ^ (14 * i)) (2 * i2) acc ∧ m2 = (f, .dic (kvI acc)) :: (x, .lk o ws (kvI ivs)) :: (pre ++ m) ∧ ts2 = [some (coinD G u d), some (.int j), some (.int k), some (.int n), some (.ref x), some (.int ((u + d) ^ i)), some dt, some (.ref f), o8, o9, o10, o11])
      ⟨[], o8, o9, o10, o11, by omega, rfl, part0 _, rfl, rfl⟩ (fun i2 ts2 m2 ⟨_, _, _, _, _, _, _, _, e, _⟩ => ⟨1, by rw [e]; rfl⟩) ?_ ?_)
    · rintro i2 dt2 ts2 m2 hi2 ⟨acc, o8, o9, o10, o11, hl2, hacc, part, rfl, rfl⟩
      obtain ⟨s, w, e2, rfl⟩ := kvI_get hi2
      have il2 : i2 < ivs.length := (List.getElem?_eq_some_iff.mp e2).1
      have wb := tab.bnd _ (List.mem_of_getElem? e2)
      have wb : w.natAbs ≤ 2 ^ (14 * i) := wb
      have w200 : w.natAbs < 2 ^ 200 := Nat.lt_of_le_of_lt wb (Nat.pow_lt_pow_right (by decide) (by omega))
      refine ⟨_, _, gt_two, ?_⟩
      show ExS G.K E _ [some (coinD G u d), some (.int j), some (.int k), some (.int n), some (.ref x), some (.int ((u + d) ^ i)), some dt, some (.ref f), some (.int s), some (.int w), o10, o11] _ _
      have p1 := part.add wb hu (nextU j s)
      have p2 := p1.add wb hd (nextDn k s)
      refine s_for (wk_zipT (ds := [optD (nextU j s), optD (nextDn k s)]) (es := [.int u, .int d]) (ea_cons (ev_call (ds := [.int j, .int k, .int s]) (by walk_at "ra") ⟨j, k, s, rfl, rfl, rfl⟩) (ea_cons (ev_tup (ea_cons (e_up T (ev_var rfl)) (ea_cons (e_down T (ev_var rfl)) ea_nil)) (by simp)) ea_nil)))
        (fun i3 ts3 m3 => ∃ a o10 o11, [acc, addO acc (w * u) (nextU j s), addO (addO acc (w * u) (nextU j s)) (w * d) (nextDn k s)][i3]? = some a ∧ m3 = (f, .dic (kvI a)) :: (x, .lk o ws (kvI ivs)) :: (pre ++ m) ∧ ts3 = [some (coinD G u d), some (.int j), some (.int k), some (.int n), some (.ref x), some (.int ((u + d) ^ i)), some dt, some (.ref f), some (.int s), some (.int w), o10, o11])
        ⟨acc, o10, o11, rfl, rfl, rfl⟩ (fun _ _ _ _ => trivial) ?_ ?_
      · rintro i3 dt3 ts3 m3 hi3 ⟨a, o10, o11, ha, rfl, rfl⟩
        obtain ⟨a', b', h1, h2, rfl⟩ := zipD_get hi3
        have n3 : i3 < 2 := by
          have := (List.getElem?_eq_some_iff.mp h1).1
          simpa using this
        rcases (by omega : i3 = 0 ∨ i3 = 1) with rfl | rfl
        · simp only [List.getElem?_cons_zero, Option.some.injEq] at h1 h2 ha
          subst h1; subst h2; subst ha
          refine ⟨_, _, gt_two, ?_⟩
          refine none_body (f := f) (w := w) (y := u) (o := nextU j s) (acc := acc) rfl rfl rfl rfl rfl part.nd (by have := part.len; omega) w200 hu ?_
          exact ⟨_, _, _, rfl, rfl, rfl⟩
        · simp only [List.getElem?_cons_zero, List.getElem?_cons_succ, Option.some.injEq] at h1 h2 ha
          subst h1; subst h2; subst ha
          refine ⟨_, _, gt_two, ?_⟩
          refine none_body (f := f) (w := w) (y := d) (o := nextDn k s) (acc := addO acc (w * u) (nextU j s)) rfl rfl rfl rfl rfl p1.nd (by have := p1.len; omega) w200 hd ?_
          exact ⟨_, _, _, rfl, rfl, rfl⟩
      · rintro ts3 m3 ⟨a, o10, o11, ha, rfl, rfl⟩
        have ha : some (addO (addO acc (w * u) (nextU j s)) (w * d) (nextDn k s)) = some a := ha
        cases ha
        refine ⟨_, _, _, _, _, by omega, ?_, p2.mono (by omega), rfl, rfl⟩
        rw [take_snoc e2, List.foldl_append, ← hacc]; rfl
    · rintro ts2 m2 ⟨acc, o8, o9, o10, o11, hl2, hacc, part, rfl, rfl⟩
      have el : ((kvI ivs).map fun p => D.tup [kD p.1, p.2]).length = ivs.length := by unfold kvI; rw [List.length_map, List.length_map]
      rw [el] at hacc part
      rw [List.take_length] at hacc
      refine ⟨1, rfl, ?_⟩
      show ExS G.K E _ [some (coinD G u d), some (.int j), some (.int k), some (.int n), some (.ref x), some (.int ((u + d) ^ i)), some dt, some (.ref f), o8, o9, o10, o11] ((f, .dic (kvI acc)) :: (x, .dic (kvI ivs)) :: (pre ++ m)) _
      have ws := whole_small hu hd i (by omega)
      refine s_par (d1 := .ref f) (d2 := .int ((u + d) ^ (i + 1))) (ea_cons (ev_var rfl) (ea_cons (EvD.is (ev_opI (ev_var rfl) (ev_opI0 (e_up T (ev_var rfl)) (e_down T (ev_var rfl))) (cmulW ws.1 (m := 5) (by unfold Share at hu hd; omega) (by decide))) (by rw [Int.pow_succ])) ea_nil)) ?_
      exact ⟨f, (x, .dic (kvI ivs)) :: pre, acc, _, _, _, _, _, _, by omega, tab_turn tab i9 hacc part, rfl, rfl⟩
  · rintro ts1 m1 ⟨x, pre, ivs, o6, o7, o8, o9, o10, o11, hl, tab, rfl, rfl⟩
    have e : (rngD 0 n).length = n.toNat := by simp [rngD]
    rw [e] at tab ⊢
    have n9 : n.toNat ≤ 9 := by omega
    have ws := whole_small hu hd n.toNat (by omega)
    have es : (ivs.map (·.2)).sum = sumF u d j k n.toNat fun _ => 1 := by
      rw [← tab.lin]; unfold linI; congr 1; apply List.map_congr_left; intro p _; show p.2 = p.2 * 1; omega
    have sb := sum_bound ivs tab.bnd
    have c : ivs.length * 2 ^ (14 * n.toNat) < 2 ^ 200 := by
      have a : ivs.length * 2 ^ (14 * n.toNat) ≤ 2 ^ n.toNat * 2 ^ (14 * n.toNat) := Nat.mul_le_mul_right _ tab.len
      rw [← Nat.pow_add] at a
      exact Nat.lt_of_le_of_lt a (Nat.pow_lt_pow_right (by decide) (by omega))
    rw [es] at sb
    refine s_ret (ev_call (ds := [.int (sumF u d j k n.toNat fun _ => 1), .int ((u + d) ^ n.toNat)]) (ea_cons (EvD.is (ev_cb (ea_cons (EvD.is (ev_listVals (k := 0) (ev_var rfl) rfl) (show D.lst ((kvI ivs).map (·.2)) = .lst ((ivs.map (·.2)).map .int) by unfold kvI; rw [List.map_map, List.map_map]; rfl)) ea_nil) cb_sum) (by rw [es])) (ea_cons (ev_var rfl) ea_nil)) ⟨_, _, rfl, ws.2, sm9 (Nat.lt_of_le_of_lt sb c) (by decide), sm9 ws.1 (by decide), rfl, rfl⟩) ⟨(x, .dic (kvI ivs)) :: pre, m, rfl, h⟩
theorem row_none {u d j k : Int} {r : List Int} {i : Nat} (h : rowSt u d j k (r.take i) = none) : rowSt u d j k r = none := by
  have : ∀ l : List Int, l.foldl (stepR u d j k) none = none := by
    intro l
    induction l with
    | nil => rfl
    | cons b l ih => exact ih
  rw [← List.take_append_drop i r]
  unfold rowSt at *
  rw [List.foldl_append, h, this]
theorem p__law_weight (h : R__law_weight G ds m P) : ExS G.K E (t__law_weight G E) (startT n__law_weight ds) m (Fin P) := by
  obtain ⟨u, d, j, k, r, rfl, hu, hd, hj, hk, hl, hb, h⟩ := h
  have hj' := hj
  have hk' := hk
  unfold Run at hj' hk'
  show ExS G.K E (t__law_weight G E) [some (.tup [.int u, .int d]), some (.int j), some (.int k), some (intsT r), none, none, none] m (Fin P)
  refine s_seq (s_asgGP (EvD.p (d := .tup [.int 0, .int 1]) (by walk_at "ra") ⟨_, _, gt_two, ?_⟩))
  show ExS G.K E _ [some (.tup [.int u, .int d]), some (.int j), some (.int k), some (intsT r), some (.int 0), some (.int 1), none] m _
  refine s_seq (s_for (wk_tup (ev_var rfl)) (fun i ts1 m1 => ∃ s w o6, m1 = m ∧ i ≤ r.length ∧ rowSt u d j k (r.take i) = some (s, w) ∧ 1 - k ≤ s ∧ s ≤ j - 1 ∧ w.natAbs < 2 ^ (5 * i + 1) ∧ ts1 = [some (.tup [.int u, .int d]), some (.int j), some (.int k), some (intsT r), some (.int s), some (.int w), o6])
    ⟨0, 1, none, rfl, by omega, rfl, by omega, by omega, by decide, rfl⟩ (fun _ _ _ _ => trivial) ?_ ?_)
  · rintro i dt ts1 m1 hi ⟨s, w, o6, rfl, il, hst, s1, s2, wb, rfl⟩
    obtain ⟨b, eb, rfl⟩ := map_int_get hi
    have il : i < r.length := (List.getElem?_eq_some_iff.mp eb).1
    have b01 := hb b (List.mem_of_getElem? eb)
    have st1 := rowSt_snoc (u := u) (d := d) (j := j) (k := k) (r.take i) b
    rw [← take_snoc eb, hst] at st1
    have wb2 : ∀ y : Int, Share y → (w * y).natAbs < 2 ^ (5 * (i + 1) + 1) := fun y hy => by
      rw [Int.natAbs_mul, show 5 * (i + 1) + 1 = 5 * i + 1 + 5 by omega]
      unfold Share at hy
      exact mul_lt_two wb (by omega)
    have fits : ∀ y : Int, Share y → CMulW w y := fun y hy => cmulW wb (m := 5) (by unfold Share at hy; omega) (by omega)
    refine ⟨_, _, gt_nm, ?_⟩
    show ExS G.K E _ [some (.tup [.int u, .int d]), some (.int j), some (.int k), some (intsT r), some (.int s), some (.int w), some (.int b)] m1 _
    have ru : 1 ≤ rawU s ∧ rawU s ≤ j := by unfold rawU; split <;> omega
    have rd : rawD s ≤ -1 ∧ -k ≤ rawD s := by unfold rawD; split <;> omega
    have nx : EvD G.K (tCall (SpD G.K (R__law_next G)) [] E (tCons (tVar 1) (tCons (tVar 2) (tCons (tVar 4) tNil)))) [some (.tup [.int u, .int d]), some (.int j), some (.int k), some (intsT r), some (.int s), some (.int w), some (.int b)] m1 (.lst [.int (upS j s), .int (downS k s)]) := ev_call (by walk_at "ra") ⟨j, k, s, rfl, rfl, rfl⟩
    have h0 : ∀ t : Int, t = 100 ∨ t = -100 → rowSt u d j k (r.take (i + 1)) = none → ∀ w2, ExS G.K E (tIfS (tTest (tOp rEq (tCB rAbs (tCons (tVar 4) tNil)) (tC (.int 100)))) (tRet (tC (.int 0))) tNext) [some (.tup [.int u, .int d]), some (.int j), some (.int k), some (intsT r), some (.int t), some (.int w2), some (.int b)] m1 (fun o => match o with
        | .rt d2 m3 => Fin P (.rt d2 m3)
        | _ => False) := fun t ht hn w2 => by
      have e : wgt u d j k r = 0 := by unfold wgt; rw [row_none hn]; rfl
      rw [e] at h
      refine s_if1 (EvT.is (et_test (ev_eq (d1 := .int (if t < 0 then -t else t)) (d2 := .int 100) (ev_cb (ea_cons (ev_var rfl) ea_nil) cb_abs) ev_int rfl)) (decide_eq_true (by split <;> omega))) (s_ret ev_int h)
    have h1 : ∀ t : Int, -40 ≤ t → t ≤ 40 → ∀ (w2 : Int) (Q : Oc → Prop), Q (.nx [some (.tup [.int u, .int d]), some (.int j), some (.int k), some (intsT r), some (.int t), some (.int w2), some (.int b)] m1) → ExS G.K E (tIfS (tTest (tOp rEq (tCB rAbs (tCons (tVar 4) tNil)) (tC (.int 100)))) (tRet (tC (.int 0))) tNext) [some (.tup [.int u, .int d]), some (.int j), some (.int k), some (intsT r), some (.int t), some (.int w2), some (.int b)] m1 Q := fun t t1 t2 w2 Q q =>
      s_if0 (EvT.is (et_test (ev_eq (d1 := .int (if t < 0 then -t else t)) (d2 := .int 100) (ev_cb (ea_cons (ev_var rfl) ea_nil) cb_abs) ev_int rfl)) (decide_eq_false (by split <;> omega))) (s_next q)
    rcases b01 with rfl | rfl
    · refine s_seq (s_asg (d := .int (upS j s)) (ev_ixL nx (ev_var rfl) rfl) ?_)
      show ExS G.K E _ [some (.tup [.int u, .int d]), some (.int j), some (.int k), some (intsT r), some (.int (upS j s)), some (.int w), some (.int 0)] m1 _
      refine s_seq (s_asg (d := .int (w * u)) (ev_opI (ev_var rfl) (ev_ixT (ev_var rfl) (ev_var rfl) rfl) (fits u hu)) ?_)
      show ExS G.K E _ [some (.tup [.int u, .int d]), some (.int j), some (.int k), some (intsT r), some (.int (upS j s)), some (.int (w * u)), some (.int 0)] m1 _
      have e1 : stepR u d j k (some (s, w)) 0 = (nextU j s).map (fun t => (t, w * u)) := rfl
      rw [e1] at st1
      by_cases c : rawU s = j
      · have e2 : nextU j s = none := by unfold nextU; rw [if_neg (by omega)]
        rw [e2] at st1
        refine ExS.imp (h0 _ (by rw [upS_raw, if_pos c]; exact .inl rfl) st1 _) fun o ho => ?_
        cases o <;> first | exact ho | exact ho.elim
      · have e2 : nextU j s = some (rawU s) := by unfold nextU; rw [if_pos (by omega)]
        rw [e2] at st1
        have e3 : upS j s = rawU s := by rw [upS_raw, if_neg c]
        rw [e3]
        exact h1 _ (by omega) (by omega) _ _ ⟨_, _, _, rfl, il, st1, by omega, by omega, wb2 u hu, rfl⟩
    · refine s_seq (s_asg (d := .int (downS k s)) (ev_ixL nx (ev_var rfl) rfl) ?_)
      show ExS G.K E _ [some (.tup [.int u, .int d]), some (.int j), some (.int k), some (intsT r), some (.int (downS k s)), some (.int w), some (.int 1)] m1 _
      refine s_seq (s_asg (d := .int (w * d)) (ev_opI (ev_var rfl) (ev_ixT (ev_var rfl) (ev_var rfl) rfl) (fits d hd)) ?_)
      show ExS G.K E _ [some (.tup [.int u, .int d]), some (.int j), some (.int k), some (intsT r), some (.int (downS k s)), some (.int (w * d)), some (.int 1)] m1 _
      have e1 : stepR u d j k (some (s, w)) 1 = (nextDn k s).map (fun t => (t, w * d)) := rfl
      rw [e1] at st1
      by_cases c : rawD s = -k
      · have e2 : nextDn k s = none := by unfold nextDn; rw [if_neg (by omega)]
        rw [e2] at st1
        refine ExS.imp (h0 _ (by rw [downS_raw, if_pos c]; exact .inr rfl) st1 _) fun o ho => ?_
        cases o <;> first | exact ho | exact ho.elim
      · have e2 : nextDn k s = some (rawD s) := by unfold nextDn; rw [if_pos (by omega)]
        rw [e2] at st1
        have e3 : downS k s = rawD s := by rw [downS_raw, if_neg c]
        rw [e3]
        exact h1 _ (by omega) (by omega) _ _ ⟨_, _, _, rfl, il, st1, by omega, by omega, wb2 d hd, rfl⟩
  · rintro ts1 m1 ⟨s, w, o6, rfl, il, hst, s1, s2, wb, rfl⟩
    rw [List.length_map, List.take_length] at hst
    have e : wgt u d j k r = w := by unfold wgt; rw [hst]; show w * 1 = w; omega
    rw [e] at h
    exact s_ret (ev_var rfl) h
theorem rows_lc (n : Nat) (b : Int) : lcD ((rowsL n).map intsT) (fun _ => true) (fun d => match d with | .tup xs => .tup (xs ++ [.int b]) | d => d) = ((rowsL n).map fun r => r ++ [b]).map intsT := by
  unfold lcD
  rw [List.filter_eq_self.mpr (fun _ _ => rfl), List.map_map, List.map_map]
  apply List.map_congr_left
  intro r _
  show D.tup (r.map D.int ++ [.int b]) = .tup ((r ++ [b]).map D.int)
  rw [List.map_append]; rfl
theorem p__law_rows (h : R__law_rows G ds m P) : ExS G.K E (t__law_rows G E) (startT n__law_rows ds) m (Fin P) := by
  obtain ⟨n, rfl, n0, n9, h⟩ := h
  show ExS G.K E (t__law_rows G E) [some (.int n), none, none, none] m (Fin P)
  refine s_seq (s_asg (d := .lst ((rowsL 0).map intsT)) (ev_lst (ds := [.tup []]) (ea_cons (ev_tup ea_nil (by simp)) ea_nil) (by simp)) ?_)
  refine s_seq (s_for (wk_rng1 (n := n) (by walk_at "ra") (by omega) (by omega)) (fun i ts1 m1 => ∃ o2 o3, m1 = m ∧ i ≤ n.toNat ∧ ts1 = [some (.int n), some (.lst ((rowsL i).map intsT)), o2, o3])
    ⟨none, none, rfl, by omega, rfl⟩ (fun _ _ _ _ => trivial) ?_ ?_)
  · rintro i dt ts1 m1 hi ⟨o2, o3, rfl, hl, rfl⟩
    have il : i < n.toNat := by
      have := (List.getElem?_eq_some_iff.mp hi).1
      simpa [rngD] using this
    have hlen : ((rowsL i).map intsT).length ≤ 512 := by rw [List.length_map, rows_len]; exact Nat.le_trans (Nat.pow_le_pow_right (by decide) (by omega : i ≤ 9)) (by decide)
    refine ⟨_, _, gt_nm, ?_⟩
    show ExS G.K E _ [some (.int n), some (.lst ((rowsL i).map intsT)), some dt, o3] m1 _
    have one : ∀ b : Int, EvD G.K (tLc (iList G.K (tVar 1)) (gName 3) tYes (tOp (rCatA G.K) (tVar 3) (tTup (tCons (tC (.int b)) tNil))) [3]) [some (.int n), some (.lst ((rowsL i).map intsT)), some dt, o3] m1 (.lst (((rowsL i).map fun r => r ++ [b]).map intsT)) := fun b => by
      rw [← rows_lc]
      refine ev_lc (wk_list (ev_var rfl)) (fun _ => true) _ (by omega) (fun d l acc hd => ?_)
      obtain ⟨r, hr, rfl⟩ := List.mem_map.mp hd
      refine ⟨_, gt_nm, et_yes, fun _ => ?_⟩
      have hrl := (rows_mem i r hr).1
      exact ev_catA (ds := r.map .int) (es := [.int b]) (ev_var rfl) (ev_tup (ea_cons ev_int ea_nil) (by simp)) (by rw [List.length_map, hrl]; exact (by omega : i + 1 ≤ 100000))
    refine s_asg (d := .lst ((rowsL (i + 1)).map intsT)) (EvD.is (ev_catL (one 0) (one 1) ?_) ?_) ⟨_, _, rfl, by omega, rfl⟩
    · simp only [List.length_map] at hlen ⊢; omega
    · rw [show rowsL (i + 1) = (rowsL i).map (fun r => r ++ [0]) ++ (rowsL i).map (fun r => r ++ [1]) from rfl, List.map_append]
  · rintro ts1 m1 ⟨o2, o3, rfl, hl, rfl⟩
    have e : (rngD 0 n).length = n.toNat := by simp [rngD]
    rw [e]
    exact s_ret (ev_var rfl) h
theorem countTold_ok {n o : D} (h : withinD n 0 200 = true) : countTold n o = o := if_pos h
theorem countTold_no {n o : D} (h : withinD n 0 200 = false) : countTold n o = .lst [.str "count", n] := if_neg (by rw [h]; decide)
structure XCount (G : Gam) : Prop where
  rr : PySem.W.exmOne G.K (.ref G.cBadRun) (.ref G.cBadRun) = some true
  cc : PySem.W.exmOne G.K (.ref G.cBadCount) (.ref G.cBadCount) = some true
  cr : PySem.W.exmOne G.K (.ref G.cBadCount) (.ref G.cBadRun) = some false
theorem p__law_refused_k04 (X : XCount G) (h : R__law_refused_k04 G ds m P) : ExS G.K E (t__law_refused_k04 G E) (startT n__law_refused_k04 ds) m (Fin P) := by
  obtain ⟨u, d, j, k, n, rfl, hu, hd, fj, fk, fn, h9, p⟩ := h
  show ExS G.K E (t__law_refused_k04 G E) [some (coinD G u d), some j, some k, some n, none, none] m (Fin P)
  refine s_seq (s_asg (d := .non) (by walk_at "ra") ?_)
  show ExS G.K E _ [some (coinD G u d), some j, some k, some n, some .non, none] m (Fin P)
  refine s_seq (s_tryE (tb := tb0__law_refused_k04 G) (fun _ _ _ _ h => h) fun E' => s_dropX (ev_callX (EvL.p (ds := [coinD G u d, j, k, n]) (by walk_at "ra") ⟨u, d, j, k, n, rfl, hu, hd, fj, fk, fn, h9, ?_⟩)))
  cases cj : withinD j 1 40 with
  | false =>
    rw [runTold_no cj] at p
    rw [runOc_no cj]
    exact catch_val X.rr (fun _ => rfl) (fun _ _ => rfl) (s_ret (ev_var rfl) p)
  | true =>
    rw [runTold_ok cj] at p
    rw [runOc_ok cj]
    cases ck : withinD k 1 40 with
    | false =>
      rw [runTold_no ck] at p
      rw [runOc_no ck]
      exact catch_val X.rr (fun _ => rfl) (fun _ _ => rfl) (s_ret (ev_var rfl) p)
    | true =>
      rw [runTold_ok ck] at p
      rw [runOc_ok ck]
      cases cn : withinD n 0 200 with
      | false =>
        rw [countTold_no cn] at p
        rw [countOc_no cn]
        exact catch_skip X.cr (catch_val X.cc (fun _ => rfl) (fun _ _ => rfl) (s_ret (ev_var rfl) p))
      | true =>
        rw [countTold_ok cn] at p
        rw [countOc_ok cn]
        exact s_ret (d := .non) (by walk_at "ra") p
theorem sumF_bound {u d j k : Int} (hu : Share u) (hd : Share d) : ∀ (n : Nat) (f : Int → Int) (B : Nat), (∀ s, (f s).natAbs ≤ B) → (sumF u d j k n f).natAbs ≤ 18 ^ n * B
  | 0, f, B, h => by
    show (f 0).natAbs ≤ 18 ^ 0 * B
    have := h 0; omega
  | n + 1, f, B, h => by
    unfold sumF
    have st : ∀ s, (stepF u d j k f s).natAbs ≤ 18 * B := fun s => by
      have at_ : ∀ (x : Int) (o : Option Int), Share x → (atO x f o).natAbs ≤ 9 * B := fun x o hx => by
        cases o with
        | none => show (0 : Int).natAbs ≤ _; omega
        | some t =>
          show (x * f t).natAbs ≤ _
          rw [Int.natAbs_mul]
          unfold Share at hx
          exact Nat.mul_le_mul (by omega) (h t)
      unfold stepF
      have a := at_ u (nextU j s) hu
      have b := at_ d (nextDn k s) hd
      omega
    have := sumF_bound (j := j) (k := k) hu hd n _ _ st
    rw [Nat.pow_succ]
    rw [Nat.mul_assoc]
    exact this
theorem gt_three {a b c : D} {i j k : Nat} : GtD G.K (gTup G.K 3 (gCons (gName i) (gCons (gName j) (gCons (gName k) gNil)))) [i, j, k] (.tup [a, b, c]) ts m (((ts.set i (some a)).set j (some b)).set k (some c)) :=
  gt_tup (gs_cons (gt_name (by simp)) (gs_cons (gt_name (by simp)) (gs_cons (gt_name (by simp)) gs_nil))) rfl
theorem e_none {u d j k n : Int} (h : EvL G.K tl ts m [coinD G u d, .int j, .int k, .int n]) (hu : Share u) (hd : Share d) (hj : Run j) (hk : Run k) (h0 : 0 ≤ n) (h9 : n ≤ 9) : EvD G.K (tCall (SpD G.K (R_none_in G)) [] E tl) ts m (frD (noneR u d j k n)) :=
  ev_call h ⟨u, d, .int j, .int k, .int n, rfl, hu, hd, rfl, rfl, rfl, fun _ => h9, by rw [runOc_ok (within_run hj), runOc_ok (within_run hk), countOc_ok (within_st h0 (by omega))]; exact ⟨rfl, rfl⟩⟩
def badC5 : List D := [.int (-1), .int 201, .non, .bl true, .str "1"]
theorem bad_c {x : Int} (h0 : 0 ≤ x) (h : x < 5) : ∃ b, atI badC5 x = some b ∧ Odd b ∧ withinD b 0 200 = false := by
  rcases (by omega : x = 0 ∨ x = 1 ∨ x = 2 ∨ x = 3 ∨ x = 4) with rfl | rfl | rfl | rfl | rfl
  · exact ⟨_, rfl, odd_int _, rfl⟩
  · exact ⟨_, rfl, odd_int _, rfl⟩
  · exact ⟨_, rfl, odd_non, rfl⟩
  · exact ⟨_, rfl, odd_bl _, rfl⟩
  · exact ⟨_, rfl, odd_str _, rfl⟩
theorem lc_wgt (u d j k : Int) (n : Nat) : lcD ((rowsL n).map intsT) (fun _ => true) (fun x => match x with | .tup xs => .int (wgt u d j k (xs.map intD)) | _ => .non) = ((rowsL n).map (wgt u d j k)).map D.int := by
  unfold lcD
  rw [List.filter_eq_self.mpr (fun _ _ => rfl), List.map_map, List.map_map]
  apply List.map_congr_left
  intro r _
  show D.int (wgt u d j k ((r.map D.int).map intD)) = .int (wgt u d j k r)
  rw [List.map_map]
  have : (intD ∘ D.int) = id := rfl
  rw [this, List.map_id]
theorem p_law_k04 (h : R_law G ds m P) : ExS G.K E (t_law_k04 G E) (startT n_law_k04 ds) m (Fin P) := by
  obtain ⟨ns, rfl, rfl, hn, p⟩ := h
  show ExS G.K E (t_law_k04 G E) [some (.lst (ns.map .int)), none, none, none, none, none, none, none, none, none, none, none, none] [] (Fin P)
  refine s_seq (s_asgP (ev_lstM (EvL.p (ds := [.lst (ns.map .int), .int 0, .int 224, .int 0]) (by walk_at "ra") ⟨by simp, fun l _ => ?_⟩)))
  show ExS G.K E _ [some (.lst (ns.map .int)), some (.ref l), none, none, none, none, none, none, none, none, none, none, none] [(l, rowD ns 0 224 0)] (Fin P)
  refine s_seq (s_asgGP (ev_tupP (ea_consP (ev_callP (EvL.p (ds := [.ref l]) (by walk_at "ra") ⟨l, rfl, 0, _, rfl, row0 hn (by decide), fun u d r1 hab hr1 => ?_⟩)))))
  refine ea_consP (ev_callP (EvL.p (ds := [.ref l, .int 6]) (by walk_at "ra") ⟨l, 6, rfl, by decide, by decide, 0, r1, rfl, hr1, fun j k r2 j1 j2 k1 k2 hr2 => ?_⟩))
  refine ea_consP (ev_taken (r := r2) (k := 0) (by walk_at "ra") (by decide) (by decide) rfl hr2 fun n r3 n0 n9 hr3 => ea_nilP ⟨⟨_, _, gt_three, ?_⟩, by simp⟩)
  obtain ⟨su, sd⟩ := drawn_share hab
  have rj : Run j := ⟨j1, by omega⟩
  have rk : Run k := ⟨k1, by omega⟩
  show ExS G.K E _ [some (.lst (ns.map .int)), some (.ref l), some (.tup [.int u, .int d]), some (.lst [.int j, .int k]), some (.int n), none, none, none, none, none, none, none, none] [(l, r3)] _
  refine s_seq (s_par (d1 := coinD G u d) (d2 := .int 1) (ea_cons (ev_coinD (by walk_at "ra") su sd) (ea_cons ev_int ea_nil)) ?_)
  show ExS G.K E _ [some (.lst (ns.map .int)), some (.ref l), some (.tup [.int u, .int d]), some (.lst [.int j, .int k]), some (.int n), some (coinD G u d), some (.int 1), none, none, none, none, none, none] [(l, r3)] _
  refine s_seq (s_asgGP (EvD.p (d := .lst [.int j, .int k]) (by walk_at "ra") ⟨_, _, gl_two, ?_⟩))
  show ExS G.K E _ [some (.lst (ns.map .int)), some (.ref l), some (.tup [.int u, .int d]), some (.lst [.int j, .int k]), some (.int n), some (coinD G u d), some (.int 1), some (.int j), some (.int k), none, none, none, none] [(l, r3)] _
  refine s_seq (s_for (wk_rng1 (n := n) (by walk_at "ra") (by omega) (by omega)) (fun i ts1 m1 => ∃ o9, m1 = [(l, r3)] ∧ i ≤ n.toNat ∧ ts1 = [some (.lst (ns.map .int)), some (.ref l), some (.tup [.int u, .int d]), some (.lst [.int j, .int k]), some (.int n), some (coinD G u d), some (.int ((u + d) ^ i)), some (.int j), some (.int k), o9, none, none, none])
    ⟨none, rfl, by omega, by rw [Int.pow_zero]⟩ (fun _ _ _ _ => trivial) ?_ ?_)
  · rintro i dt ts1 m1 hi ⟨o9, rfl, il, rfl⟩
    have il : i < n.toNat := by
      have := (List.getElem?_eq_some_iff.mp hi).1
      simpa [rngD] using this
    have ws := whole_small su sd i (by omega)
    refine ⟨_, _, gt_nm, ?_⟩
    show ExS G.K E _ [some (.lst (ns.map .int)), some (.ref l), some (.tup [.int u, .int d]), some (.lst [.int j, .int k]), some (.int n), some (coinD G u d), some (.int ((u + d) ^ i)), some (.int j), some (.int k), some dt, none, none, none] [(l, r3)] _
    refine s_asg (d := .int ((u + d) ^ (i + 1))) (EvD.is (ev_opI (ev_var rfl) (ev_opI0 (ev_ixT (ev_var rfl) ev_int rfl) (ev_ixT (ev_var rfl) ev_int rfl)) (cmulW ws.1 (m := 5) (by unfold Share at su sd; omega) (by decide))) (by rw [Int.pow_succ])) ⟨some dt, rfl, by omega, rfl⟩
  rintro ts1 m1 ⟨o9, rfl, il, rfl⟩
  have e : (rngD 0 n).length = n.toNat := by simp [rngD]
  rw [e]
  have ws := whole_small su sd n.toNat (by omega)
  have hlen : ((rowsL n.toNat).map intsT).length ≤ 512 := by rw [List.length_map, rows_len]; exact Nat.le_trans (Nat.pow_le_pow_right (by decide) (by omega : n.toNat ≤ 9)) (by decide)
  refine s_seq (s_asg (d := .lst (((rowsL n.toNat).map (wgt u d j k)).map D.int)) (EvD.is (ev_lc (wk_list (ev_call (ds := [.int n]) (by walk_at "ra") ⟨n, rfl, n0, by omega, rfl, rfl⟩)) (fun _ => true) (fun x => match x with | .tup xs => .int (wgt u d j k (xs.map intD)) | _ => .non) (by omega) (fun x l' acc hx => ?_)) (by rw [lc_wgt])) ?_)
  · obtain ⟨r, hr, rfl⟩ := List.mem_map.mp hx
    obtain ⟨h1, h2⟩ := rows_mem _ _ hr
    refine ⟨_, gt_nm, et_yes, fun _ => EvD.is (ev_call (ds := [pairD u d, .int j, .int k, intsT r]) (ea_cons (ev_var rfl) (ea_cons (ev_var rfl) (ea_cons (ev_var rfl) (ea_cons (ev_var rfl) ea_nil)))) ⟨u, d, j, k, r, rfl, su, sd, rj, rk, by omega, h2, rfl, rfl⟩) ?_⟩
    show D.int (wgt u d j k r) = .int (wgt u d j k ((r.map D.int).map intD))
    rw [List.map_map]
    have : (intD ∘ D.int) = id := rfl
    rw [this, List.map_id]
  have hsum : ((rowsL n.toNat).map (wgt u d j k)).sum = sumF u d j k n.toNat fun _ => 1 := rows_sum u d j k n.toNat fun _ => 1
  have hb := sumF_bound (j := j) (k := k) su sd n.toNat (fun _ => 1) 1 (fun _ => by decide)
  have c : 18 ^ n.toNat * 1 < 2 ^ 200 := by
    have a : 18 ^ n.toNat ≤ 18 ^ 9 := Nat.pow_le_pow_right (by decide) (by omega)
    have b : (18 : Nat) ^ 9 * 1 < 2 ^ 200 := by decide +kernel
    omega
  have wp : 0 < (u + d) ^ n.toNat := Int.pow_pos (by unfold Share at su sd; omega)
  show ExS G.K E _ [some (.lst (ns.map .int)), some (.ref l), some (.tup [.int u, .int d]), some (.lst [.int j, .int k]), some (.int n), some (coinD G u d), some (.int ((u + d) ^ n.toNat)), some (.int j), some (.int k), o9, some (.lst (((rowsL n.toNat).map (wgt u d j k)).map D.int)), none, none] [(l, r3)] _
  refine s_seq (s_if0 (t_neF0 (p := noneR u d j k n) (q := noneR u d j k n) (e_none (by walk_at "ra") su sd rj rk n0 (by omega)) (ev_call (ds := [.int (sumF u d j k n.toNat fun _ => 1), .int ((u + d) ^ n.toNat)]) (ea_cons (EvD.is (ev_cb (ea_cons (ev_var rfl) ea_nil) cb_sum) (by rw [hsum])) (ea_cons (ev_var rfl) ea_nil)) ⟨_, _, rfl, wp, sm9 (Nat.lt_of_le_of_lt hb c) (by decide), sm9 ws.1 (by decide), rfl, rfl⟩) rfl) (s_next ?_))
  refine s_seq (s_if0 (et_or0 (t_neF0 (p := noneR u d 1 1 (n + 1)) (q := 0) (e_none (by walk_at "ra") su sd ⟨by decide, by decide⟩ ⟨by decide, by decide⟩ (by omega) (by omega)) (by rw [frD_zero]; walk_at "ra") ?_) (t_neF0 (p := noneR u d 40 40 n) (q := 1) (e_none (by walk_at "ra") su sd ⟨by decide, by decide⟩ ⟨by decide, by decide⟩ n0 (by omega)) (by rw [frD_one]; walk_at "ra") ?_)) (s_next ?_))
  · unfold noneR
    have e : (n + 1).toNat = n.toNat + 1 := by omega
    rw [e, sumF_one, Rat.zero_divInt]
  · unfold noneR
    rw [sumF_far n.toNat (fun _ => 1) 1 (fun _ _ => rfl) (by omega) (by omega), Int.mul_one]
    have := ws.2
    generalize (u + d) ^ n.toNat = w at *
    rw [Rat.divInt_self' this]
  refine s_seq (s_asgP (ev_opP (EvD.p (d := .lst badL6) (ev_lst (by unfold badL6; walk_at "ra") (by decide)) (ev_taken (r := r3) (k := 0) (by walk_at "ra") (by decide) (by decide) rfl hr3 fun y r4 h0 h9 hr4 => ?_))))
  obtain ⟨b, eb, ob, wb⟩ := bad6 h0 h9
  refine ⟨b, od_ixL eb, ?_⟩
  show ExS G.K E _ [some (.lst (ns.map .int)), some (.ref l), some (.tup [.int u, .int d]), some (.lst [.int j, .int k]), some (.int n), some (coinD G u d), some (.int ((u + d) ^ n.toNat)), some (.int j), some (.int k), o9, some (.lst (((rowsL n.toNat).map (wgt u d j k)).map D.int)), none, some b] [(l, r4)] _
  have fb := ob.1
  have neg : withinD (.int (-1)) 0 200 = true → intD (.int (-1)) ≤ 9 := fun _ => by decide
  refine s_seq (s_if0 (et_or0 (t_toldN ob (ev_call (ds := [coinD G u d, b, b, .int (-1)]) (by walk_at "ra") ⟨u, d, b, b, .int (-1), rfl, su, sd, fb, fb, rfl, neg, ?_⟩) (ev_lst (by walk_at "ra") (by simp)))
    (t_toldN ob (ev_call (ds := [coinD G u d, .int j, b, .int (-1)]) (by walk_at "ra") ⟨u, d, .int j, b, .int (-1), rfl, su, sd, rfl, fb, rfl, neg, ?_⟩) (ev_lst (by walk_at "ra") (by simp)))) (s_next ?_))
  · rw [runTold_no wb]; exact ⟨rfl, rfl⟩
  · rw [runTold_ok (within_run rj), runTold_no wb]; exact ⟨rfl, rfl⟩
  refine s_seq (s_asgP (ev_opP (EvD.p (d := .lst badC5) (ev_lst (by unfold badC5; walk_at "ra") (by decide)) (ev_taken (r := r4) (k := 0) (by walk_at "ra") (by decide) (by decide) rfl hr4 fun y r5 h0 h9 hr5 => ?_))))
  obtain ⟨b2, eb2, ob2, wb2⟩ := bad_c h0 h9
  refine ⟨b2, od_ixL eb2, ?_⟩
  show ExS G.K E _ [some (.lst (ns.map .int)), some (.ref l), some (.tup [.int u, .int d]), some (.lst [.int j, .int k]), some (.int n), some (coinD G u d), some (.int ((u + d) ^ n.toNat)), some (.int j), some (.int k), o9, some (.lst (((rowsL n.toNat).map (wgt u d j k)).map D.int)), none, some b2] [(l, r5)] _
  have fb2 := ob2.1
  refine s_ret (e_told ob2 (ev_call (ds := [coinD G u d, .int j, .int k, b2]) (by walk_at "ra") ⟨u, d, .int j, .int k, b2, rfl, su, sd, rfl, rfl, fb2, fun z => absurd z (by rw [wb2]; decide), ?_⟩) (ev_lst (by walk_at "ra") (by simp))) (p _)
  rw [runTold_ok (within_run rj), runTold_ok (within_run rk), countTold_no wb2]
  exact ⟨rfl, rfl⟩
end RA
set_option Elab.async false
set_option linter.all false
set_option maxRecDepth 100000
set_option maxHeartbeats 1000000
namespace RA
open PySem PySem.Spec PyProof.Rows L2 Evl
/-! the walk over a reading -/
local macro_rules | `(tactic| walk_at "ra1") => `(tactic| first
  | exact ev_int
  | exact ev_bl
  | exact ev_non
  | exact ev_str
  | exact ev_ty
  | exact ev_ref
  | (refine ev_var ?_; rfl)
  | exact ea_nil
  | apply ea_cons
  | apply ev_opI0
  | apply ev_opB0
  | apply ev_opI
  | refine ev_neg ?_
  | apply ev_ixT
  | (show atI _ _ = some _; rfl)
  | refine ev_tup ?_ (by first | decide | simp)
  | apply ev_cb
  | apply ev_call
  | refine et_test ?_
  | refine et_B ?_
  | refine et_not ?_
  | exact et_yes)
local macro_rules | `(tactic| walk_at "ra") => `(tactic| repeat' (walk_at "ra1"))
variable {G : Gam} {ds : List D} {ts : TSt} {m : Mem} {P : Oc → Prop} {E : XK} {tl : TA}
/-! coins that fit -/
def isTupD : D → Bool
  | .tup _ => true
  | _ => false
theorem isi_tup {tl : TA} {d : D} (hf : Flat d) (h : EvL G.K tl ts m [d, .ty "tuple"]) : EvD G.K (tCB (rIsi G.K) tl) ts m (.bl (isTupD d)) := by
  cases d <;> first | exact ev_cb h (cb_isi rfl rfl) | exact absurd hf (by simp [Flat, tyD])
theorem isFrac_ints {a b : D} (h : (isIntD a && isIntD b) = false) : isFracD (.tup [a, b]) = false := by
  cases a <;> cases b <;> first | rfl | (simp [isIntD] at h)
theorem p_is_fraction (h : R_is_fraction G ds m P) : ExS G.K E (t_is_fraction G E) (startT n_is_fraction ds) m (Fin P) := by
  obtain ⟨d, rfl, ⟨hf, hs⟩, h⟩ := h
  show ExS G.K E (t_is_fraction G E) [some d] m (Fin P)
  have hi := isi_tup (ts := [some d]) (m := m) hf (show EvL G.K (tCons (tVar 0) (tCons (tC (.ty "tuple")) tNil)) _ _ _ by walk_at "ra")
  by_cases ht : ∃ xs, d = .tup xs
  · obtain ⟨xs, rfl⟩ := ht
    have h1 : EvT G.K (tNot (tB (tCB (rIsi G.K) (tCons (tVar 0) (tCons (tC (.ty "tuple")) tNil))))) [some (.tup xs)] m false := et_not (et_B hi)
    by_cases hl : xs.length = 2
    · obtain ⟨a, b, rfl⟩ : ∃ a b, xs = [a, b] := by
        match xs, hl with
        | [a, b], _ => exact ⟨a, b, rfl⟩
      obtain ⟨fa, fb, sa, sb⟩ := hs a b rfl
      have h2 : EvT G.K (tTest (tOp rNe (tCB (rLen G.K) (tCons (tVar 0) tNil)) (tC (.int 2)))) [some (.tup [a, b])] m false := et_test (EvD.is (ev_ne (d1 := .int 2) (d2 := .int 2) (ev_cb (ea_cons (ev_var rfl) ea_nil) cb_lenT) ev_int rfl) rfl)
      have h3 : EvT G.K (tNot (tB (tCall (SpD G.K (R_is_whole G)) [] E (tCons (tOp (rIxT G.K) (tVar 0) (tC (.int 0))) tNil)))) [some (.tup [a, b])] m (!isIntD a) := et_not (et_B (ev_call (ea_cons (ev_ixT (ev_var rfl) ev_int rfl) ea_nil) ⟨a, rfl, fa, rfl, rfl⟩))
      have h4 : EvT G.K (tNot (tB (tCall (SpD G.K (R_is_whole G)) [] E (tCons (tOp (rIxT G.K) (tVar 0) (tC (.int 1))) tNil)))) [some (.tup [a, b])] m (!isIntD b) := et_not (et_B (ev_call (ea_cons (ev_ixT (ev_var rfl) ev_int rfl) ea_nil) ⟨b, rfl, fb, rfl, rfl⟩))
      have h34 := et_or h3 (fun _ => h4)
      refine s_seq (s_if (b := !isIntD a || !isIntD b) (et_or0 h1 (et_or0 h2 h34)) (fun c => ?_) (fun c => s_next ?_))
      · rw [isFrac_ints (by cases qa : isIntD a <;> cases qb : isIntD b <;> simp_all)] at h
        exact s_ret ev_bl h
      · rw [Bool.or_eq_false_iff, Bool.not_eq_false', Bool.not_eq_false'] at c
        obtain ⟨x, rfl⟩ : ∃ x, a = .int x := by cases a <;> simp [isIntD] at c ⊢
        obtain ⟨y, rfl⟩ : ∃ y, b = .int y := by cases b <;> simp [isIntD] at c ⊢
        have s1 := sa x rfl
        have s2 := sb y rfl
        refine s_ret (EvD.is (ev_and (b1 := decide (0 < y)) (b2 := decide ((Int.gcd x y : Int) = 1)) (ev_opB0 (f := fun i j => decide (j < i)) (ev_ixT (ev_var rfl) ev_int rfl) ev_int) (fun _ => ev_eq (e_common (ea_cons (ev_ixT (ev_var rfl) ev_int rfl) (ea_cons (ev_ixT (ev_var rfl) ev_int rfl) ea_nil)) s1 s2) ev_int rfl)) ?_) h
        show D.bl _ = .bl (decide (0 < y) && decide (Int.gcd x y = 1))
        congr 2
        rw [decide_eq_decide]
        omega
    · have h2 : EvT G.K (tTest (tOp rNe (tCB (rLen G.K) (tCons (tVar 0) tNil)) (tC (.int 2)))) [some (.tup xs)] m true := et_test (EvD.is (ev_ne (d1 := .int (xs.length : Int)) (d2 := .int 2) (ev_cb (ea_cons (ev_var rfl) ea_nil) cb_lenT) ev_int rfl) (by rw [decide_eq_false (by omega)]; rfl))
      have e : isFracD (.tup xs) = false := by
        match xs, hl with
        | [], _ => rfl
        | [a], _ => cases a <;> rfl
        | [a, b], hl => exact absurd rfl hl
        | a :: b :: c :: r, _ => cases a <;> cases b <;> rfl
      rw [e] at h
      exact s_seq (s_if1 (et_or0 h1 (et_or1 h2)) (s_ret ev_bl h))
  · have e : isFracD d = false := by cases d <;> first | rfl | exact absurd ⟨_, rfl⟩ ht
    have e2 : isTupD d = false := by cases d <;> first | rfl | exact absurd ⟨_, rfl⟩ ht
    rw [e] at h
    exact s_seq (s_if1 (et_or1 (EvT.is (et_not (et_B hi)) (by rw [e2]; rfl))) (s_ret ev_bl h))
theorem sq_D (n : Int) (h : 0 ≤ n) : ((rngD 1 (n + 1)).flatMap fun d => (rngD 1 (n + 1)).map fun e => .tup [d, e]) = pairsD (sqL n.toNat) := by
  unfold rngD pairsD sqL
  have e : (n + 1 - 1).toNat = n.toNat := by omega
  rw [e, List.flatMap_map, List.map_flatMap]
  congr 1
  funext i
  rw [List.map_map, List.map_map]
  rfl
theorem sq_len (n : Nat) : (sqL n).length = n * n := by
  unfold sqL
  rw [List.length_flatMap]
  simp [List.map_const']
theorem sq_mem {n : Nat} {p : Int × Int} (h : p ∈ sqL n) : 1 ≤ p.1 ∧ p.1 ≤ n ∧ 1 ≤ p.2 ∧ p.2 ≤ n := by
  unfold sqL at h
  obtain ⟨i, hi, h⟩ := List.mem_flatMap.mp h
  obtain ⟨j, hj, rfl⟩ := List.mem_map.mp h
  rw [List.mem_range] at hi hj
  refine ⟨?_, ?_, ?_, ?_⟩ <;> (show (_ : Int) ≤ _) <;> simp only <;> omega
/-- every = [(j, k) for j in range(1, n + 1) for k in range(1, n + 1)] -/
theorem ev_sq {PD : D → Mem → Prop} {n : Int} {i j : Nat} {te1 : TE} (h0 : 0 ≤ n) (h1 : n ≤ 100) (hn : ∀ {tsx : TSt} {mx : Mem}, (∀ q : Nat, q ≠ i → q ≠ j → tsx[q]? = ts[q]?) → EvD G.K te1 tsx mx (.int (n + 1))) (hij : i ≠ j) (hi : i < ts.length) (hj : j < ts.length)
    (hP : ∀ l, l ∉ m.map (·.1) → PD (.ref l) ((l, .lst (pairsD (sqL n.toNat))) :: m)) : EvP G.K (tLc2 (iRng2 (tCons (tC (.int 1)) (tCons te1 tNil))) (gName i) tYes (iRng2 (tCons (tC (.int 1)) (tCons te1 tNil))) (gName j) tYes (tTup (tCons (tVar i) (tCons (tVar j) tNil))) [i, j] [j]) ts m PD := by
  have hw : ∀ {tsx : TSt} {mx : Mem}, (∀ q : Nat, q ≠ i → q ≠ j → tsx[q]? = ts[q]?) → WkD G.K (iRng2 (tCons (tC (.int 1)) (tCons te1 tNil))) tsx mx (fun _ => True) (rngD 1 (n + 1)) := fun h => wk_rng2 (lo := 1) (n := n + 1) (ea_cons ev_int (ea_cons (hn h) ea_nil)) (by omega)
  have ln : ((rngD 1 (n + 1)).flatMap fun d => (rngD 1 (n + 1)).map fun e => D.tup [d, e]).length ≤ 100000 := by
    rw [sq_D n h0, pairsD, List.length_map, sq_len]
    have : n.toNat * n.toNat ≤ 100 * 100 := Nat.mul_le_mul (by omega) (by omega)
    omega
  refine ev_lc2 (hw fun _ _ _ => rfl) (fun _ => rngD 1 (n + 1)) (fun d e => .tup [d, e]) ln (fun d l acc hd => ?_) (by rw [sq_D n h0]; exact hP)
  have lw : ∀ q : Nat, q ≠ i → q ≠ j → (wipeT ts [i, j])[q]? = ts[q]? := fun q h1 h2 => by
    show ((ts.set j none).set i none)[q]? = _
    rw [List.getElem?_set_ne (fun z => h1 z.symm), List.getElem?_set_ne (fun z => h2 z.symm)]
  refine ⟨_, gt_name (by simp), et_yes, hw fun q h1 h2 => ?_, fun e acc' he => ?_⟩
  · rw [List.getElem?_set_ne (fun z => h1 z.symm), lw q h1 h2]
  · have lt : i < ((wipeT ts [i, j])).length := by
      show i < ((ts.set j none).set i none).length
      simpa using hi
    have e1 : (((wipeT ((wipeT ts [i, j]).set i (some d)) [j]).set j (some e)))[i]? = some (some d) := by
      rw [List.getElem?_set_ne (fun z => hij z.symm)]
      show (((wipeT ts [i, j]).set i (some d)).set j none)[i]? = _
      rw [List.getElem?_set_ne (fun z => hij z.symm), List.getElem?_set_self lt]
    have e2 : (((wipeT ((wipeT ts [i, j]).set i (some d)) [j]).set j (some e)))[j]? = some (some e) := by
      refine List.getElem?_set_self ?_
      show j < (((wipeT ts [i, j]).set i (some d)).set j none).length
      show j < ((((ts.set j none).set i none).set i (some d)).set j none).length
      simpa using hj
    exact ⟨_, gt_name (by simp), et_yes, ev_tup (ea_cons (ev_var e1) (ea_cons (ev_var e2) ea_nil)) (by simp)⟩
theorem lc_pairs (l : List (Int × Int)) (f : Int × Int → Bool) (F : D → Bool) (v : D → D) (h : ∀ p ∈ l, F (pairD2 p) = f p) (hv : ∀ p ∈ l, v (pairD2 p) = pairD2 p) : lcD (pairsD l) F v = pairsD (l.filter f) := by
  unfold lcD pairsD
  rw [List.filter_map, List.map_map]
  have e : List.filter (F ∘ pairD2) l = List.filter f l := List.filter_congr h
  rw [e]
  apply List.map_congr_left
  intro p hp
  exact hv p (List.mem_filter.mp hp).1
def fstD : D → Int
  | .tup [.int a, _] => a
  | _ => 0
def sndD : D → Int
  | .tup [_, .int b] => b
  | _ => 0
theorem coins_mem {p : Int × Int} (h : p ∈ coinsL) : Share p.1 ∧ Share p.2 := by
  have h := sq_mem (List.mem_filter.mp h).1
  exact ⟨⟨h.1, by have := h.2.1; omega⟩, ⟨h.2.2.1, by have := h.2.2.2; omega⟩⟩
theorem coins_len : coinsL.length ≤ 81 := by decide +kernel
theorem p_all_coins (h : R_all_coins G ds m P) : ExS G.K E (t_all_coins G E) (startT n_all_coins ds) m (Fin P) := by
  obtain ⟨rfl, h⟩ := h
  show ExS G.K E (t_all_coins G E) [none, none, none, none] m (Fin P)
  refine s_seq (s_asgP (EvP.freeze (ev_sq (n := 9) (by decide) (by decide) (fun _ => ev_opI0 (i := 9) (j := 1) ev_int ev_int) (by decide) (by decide) (by decide) fun l _ => ⟨l, _, m, rfl, rfl, ?_⟩)))
  show ExS G.K E _ [some (.lst (pairsD (sqL 9))), none, none, none] m _
  refine s_ret (EvD.is (ev_lc (wk_list (ev_var rfl)) (fun d => decide ((Int.gcd (fstD d) (sndD d) : Int) = 1)) (fun d => d) (by rw [pairsD, List.length_map, sq_len]; decide) (fun d l acc hd => ?_)) (congrArg D.lst (lc_pairs _ (fun p => decide (Int.gcd p.1 p.2 = 1)) _ _ (fun p _ => ?_) (fun _ _ => rfl)))) h
  · obtain ⟨p, hp, rfl⟩ := List.mem_map.mp hd
    have hb := sq_mem hp
    refine ⟨_, gt_nm, et_test (ev_eq (d1 := .int (Int.gcd p.1 p.2 : Int)) (d2 := .int 1) (e_common (ea_cons (ev_ixT (d := .int p.1) (ds := [.int p.1, .int p.2]) (ev_var rfl) ev_int rfl) (ea_cons (ev_ixT (d := .int p.2) (ds := [.int p.1, .int p.2]) (ev_var rfl) ev_int rfl) ea_nil)) (sm20 ?_) (sm20 ?_)) ev_int rfl), fun _ => ev_var rfl⟩
    · have e : (2 : Nat) ^ 20 = 1048576 := by decide
      omega
    · have e : (2 : Nat) ^ 20 = 1048576 := by decide
      omega
  · show decide ((Int.gcd p.1 p.2 : Int) = 1) = decide (Int.gcd p.1 p.2 = 1)
    rw [decide_eq_decide]; omega
theorem e_all_coins : EvD G.K (tCall (SpD G.K (R_all_coins G)) [] E tNil) ts m (.lst (pairsD coinsL)) := ev_call ea_nil ⟨rfl, rfl, rfl⟩
theorem ev_HALF (T : HalfOk G) : EvD G.K (tC (.ref G.vHALF)) ts m (frD (1 / 2)) := EvD.is (d := .tup [.int 1, .int 2]) (ev_val fun H => .tup (T.half H) (.cons (.int 1) (.cons (.int 2) .nil))) (by
  have e : (1 / 2 : Rat).num = 1 ∧ (1 / 2 : Rat).den = 2 := by decide +kernel
  unfold frD; rw [e.1, e.2]; rfl)
theorem e_chance_by {u d j k s : Int} (h : EvL G.K tl ts m [coinD G u d, .int j, .int k, .int s]) (hu : Share u) (hd : Share d) (hj : Run j) (hk : Run k) (h1 : 1 - k ≤ s) (h2 : s ≤ j - 1) : EvD G.K (tCall (SpD G.K (R_chance_by G)) [] E tl) ts m (frD (chanceR (pOf u d) (pOf d u) j k s)) := ev_call h ⟨u, d, j, k, s, rfl, hu, hd, hj, hk, h1, h2, rfl, rfl⟩
theorem p_fair (T : HalfOk G) (h : R_fair G ds m P) : ExS G.K E (t_fair G E) (startT n_fair ds) m (Fin P) := by
  obtain ⟨u, d, n, rfl, hu, hd, fn, h1, h2⟩ := h
  show ExS G.K E (t_fair G E) [some (coinD G u d), some n, none, none, none] m (Fin P)
  refine s_seq (s_dropX (ev_callX (EvL.p (ds := [n, .int 1, .int 30]) (by walk_at "ra") ⟨n, 1, 30, rfl, fn, ?_⟩)))
  cases cn : withinD n 1 30 with
  | false => rw [countOc_no cn]; exact h2 cn
  | true =>
    rw [countOc_ok cn]
    have h1 := h1 cn
    obtain ⟨en, n1, n2⟩ := within_int cn
    rw [en]
    generalize intD n = n at *
    show ExS G.K E _ [some (coinD G u d), some (.int n), none, none, none] m _
    refine s_seq (s_asgP (EvP.freeze (ev_sq (n := n) (by omega) (by omega) (fun hx => ev_opI0 (i := n) (j := 1) (ev_var (by rw [hx 1 (by decide) (by decide)]; rfl)) ev_int) (by decide) (show 3 < 5 by decide) (show 4 < 5 by decide) fun l _ => ⟨l, _, m, rfl, rfl, ?_⟩)))
    show ExS G.K E _ [some (coinD G u d), some (.int n), some (.lst (pairsD (sqL n.toNat))), none, none] m _
    refine s_retP (ev_lcF (wk_list (ev_var rfl)) (fun x => decide (chanceR (pOf u d) (pOf d u) (fstD x) (sndD x) 0 = 1 / 2)) (fun x => x) ?_ (fun x l acc hx => ?_) (fun l hl => ?_))
    · rw [pairsD, List.length_map, sq_len]
      have : n.toNat * n.toNat ≤ 30 * 30 := Nat.mul_le_mul (by omega) (by omega)
      omega
    · obtain ⟨p, hp, rfl⟩ := List.mem_map.mp hx
      have hb := sq_mem hp
      refine ⟨_, gt_two, et_test (e_eqF (p := chanceR (pOf u d) (pOf d u) p.1 p.2 0) (e_chance_by (ea_cons (ev_var rfl) (ea_cons (ev_var rfl) (ea_cons (ev_var rfl) (ea_cons ev_int ea_nil)))) hu hd ⟨hb.1, by omega⟩ ⟨hb.2.2.1, by omega⟩ (by omega) (by omega)) (ev_HALF T)), fun _ => ev_tup (ds := [.int p.1, .int p.2]) (ea_cons (ev_var rfl) (ea_cons (ev_var rfl) ea_nil)) (by simp)⟩
    · have e : lcD (pairsD (sqL n.toNat)) (fun x => decide (chanceR (pOf u d) (pOf d u) (fstD x) (sndD x) 0 = 1 / 2)) (fun x => x) = pairsD (fairL u d n) := lc_pairs _ _ _ _ (fun _ _ => rfl) (fun _ _ => rfl)
      rw [e]
      exact h1 l hl
/-- Coin(pair[0], pair[1]) -/
theorem e_coinOf {p : Int × Int} {i : Nat} (h : ts[i]? = some (some (pairD2 p))) (hp : p ∈ coinsL) : EvD G.K (tMake G.cCoin (SpD G.K (R_Coin_init G)) [] E (tCons (tOp (rIxT G.K) (tVar i) (tC (.int 0))) (tCons (tOp (rIxT G.K) (tVar i) (tC (.int 1))) tNil))) ts m (coinD G p.1 p.2) :=
  ev_coinD (ea_cons (ev_ixT (ds := [.int p.1, .int p.2]) (ev_var h) ev_int rfl) (ea_cons (ev_ixT (ds := [.int p.1, .int p.2]) (ev_var h) ev_int rfl) ea_nil)) (coins_mem hp).1 (coins_mem hp).2
theorem frac_of {d : D} (h : isFracD d = true) : ∃ q, d = frD q := by
  have key : ∀ {a b : D}, isFracD (.tup [a, b]) = true → ∃ q, D.tup [a, b] = frD q := fun {a b} h => by
    cases a with
    | int a =>
      cases b with
      | int b =>
        have h : (decide (0 < b) && decide (Int.gcd a b = 1)) = true := h
        rw [Bool.and_eq_true, decide_eq_true_eq, decide_eq_true_eq] at h
        exact ⟨Rat.divInt a b, (frD_mk h.1 h.2).symm⟩
      | _ => exact absurd h Bool.false_ne_true
    | _ => exact absurd h (by cases b <;> exact Bool.false_ne_true)
  cases d with
  | tup xs =>
    rcases xs with _ | ⟨a, _ | ⟨b, _ | ⟨c, r⟩⟩⟩
    · exact absurd h Bool.false_ne_true
    · exact absurd h (by cases a <;> exact Bool.false_ne_true)
    · exact key h
    · exact absurd h (by cases a <;> cases b <;> exact Bool.false_ne_true)
  | _ => exact absurd h Bool.false_ne_true
theorem fit_fun (j k : Int) (q : Rat) : lcD (pairsD coinsL) (fun x => decide (coinC (fstD x, sndD x) j k = q)) (fun x => x) = pairsD (fitL j k q) := lc_pairs _ _ _ _ (fun _ _ => rfl) (fun _ _ => rfl)
theorem p_fitting (h : R_fitting G ds m P) : ExS G.K E (t_fitting G E) (startT n_fitting ds) m (Fin P) := by
  obtain ⟨j, k, t, rfl, fj, fk, ft, h1, h2, h3, h4⟩ := h
  show ExS G.K E (t_fitting G E) [some j, some k, some t, none] m (Fin P)
  refine s_seq (s_dropX (ev_callX (EvL.p (ds := [j, k, .int 40]) (by walk_at "ra") ⟨j, k, 40, rfl, fj, fk, ?_⟩)))
  cases cj : withinD j 1 40 with
  | false => rw [runOc_no cj]; exact h1 cj
  | true =>
    rw [runOc_ok cj]
    cases ck : withinD k 1 40 with
    | false => rw [runOc_no ck]; exact h2 cj ck
    | true =>
      rw [runOc_ok ck]
      have h3 := h3 cj ck
      have h4 := h4 cj ck
      obtain ⟨ej, j1, j2⟩ := within_int cj
      obtain ⟨ek, k1, k2⟩ := within_int ck
      rw [ej, ek]
      generalize intD j = j at *
      generalize intD k = k at *
      show ExS G.K E _ [some (.int j), some (.int k), some t, none] m _
      have ef : EvT G.K (tNot (tB (tCall (SpD G.K (R_is_fraction G)) [] E (tCons (tVar 2) tNil)))) [some (.int j), some (.int k), some t, none] m (!isFracD t) := et_not (et_B (ev_call (ea_cons (ev_var rfl) ea_nil) ⟨t, rfl, ft, rfl, rfl⟩))
      cases c : isFracD t with
      | false =>
        rw [c] at ef
        exact s_seq (s_if1 ef (s_raise0 (h3 c)))
      | true =>
        rw [c] at ef
        obtain ⟨q, rfl⟩ := frac_of c
        have h4 := h4 q rfl
        refine s_seq (s_if0 ef (s_next ?_))
        refine s_retP (ev_lcF (wk_list e_all_coins) (fun x => decide (coinC (fstD x, sndD x) j k = q)) (fun x => x) (by rw [pairsD, List.length_map]; have := coins_len; omega) (fun x l acc hx => ?_) (fun l hl => by rw [fit_fun]; exact h4 l hl))
        obtain ⟨p, hp, rfl⟩ := List.mem_map.mp hx
        refine ⟨_, gt_nm, et_test (e_eqF (p := coinC p j k) (e_chance_by (ea_cons (e_coinOf rfl hp) (ea_cons (ev_var rfl) (ea_cons (ev_var rfl) (ea_cons ev_int ea_nil)))) (coins_mem hp).1 (coins_mem hp).2 ⟨j1, j2⟩ ⟨k1, k2⟩ (by omega) (by omega)) (ev_var rfl)), fun _ => ev_var rfl⟩
theorem sz_half : Sz 2 (1 / 2 : Rat) := ⟨by decide +kernel, by decide +kernel⟩
theorem p_off_half (T : HalfOk G) (h : R_off_half G ds m P) : ExS G.K E (t_off_half G E) (startT n_off_half ds) m (Fin P) := by
  obtain ⟨c, n, rfl, hc, hn, h⟩ := h
  show ExS G.K E (t_off_half G E) [some (frD c), none] m (Fin P)
  unfold offR at h
  refine s_seq (s_asg (d := frD (c - 1 / 2)) (e_less (ea_cons (ev_var rfl) (ea_cons (ev_HALF T) ea_nil)) hc sz_half (by omega)) ?_)
  generalize c - 1 / 2 = x at *
  show ExS G.K E _ [some (frD c), some (.tup [.int x.num, .int x.den])] m _
  have e : decide (0 ≤ x.num) = decide (0 ≤ x) := by rw [decide_eq_decide, Rat.num_nonneg]
  refine s_ret (ev_if (b := decide (0 ≤ x.num)) (by walk_at "ra") (fun z => EvD.is (d := frD x) (ev_var rfl) ?_) (fun z => EvD.is (d := .tup [.int (-x.num), .int x.den]) (by walk_at "ra") ?_)) h
  · rw [e] at z; rw [if_pos (of_decide_eq_true z)]
  · rw [e] at z; rw [if_neg (of_decide_eq_false z), frD_neg]
theorem sz_off {c : Rat} {n : Nat} (h : Sz n c) : Sz (n + 3) (offR c) := by
  unfold offR
  split
  · exact (h.sub sz_half).mono (by omega)
  · exact ((h.sub sz_half).neg).mono (by omega)
theorem sz_coinC {p : Int × Int} {j k : Int} (hp : p ∈ coinsL) (hj : Run j) (hk : Run k) : Sz 2300 (coinC p j k) := sz_chance (coins_mem hp).1 (coins_mem hp).2 hj hk (by unfold Run at hk; omega) (by unfold Run at hj; omega)
/-- the walk so far -/
structure NearOk (j k : Int) (i : Nat) (b : Rat) (f : List (Int × Int)) : Prop where
  eq : (coinsL.take i).foldl (nearS j k) (1, []) = (b, f)
  sz : Sz 2303 b
  len : f.length ≤ i
theorem near0 (j k : Int) : NearOk j k 0 1 [] := ⟨rfl, sz_one.mono (by decide), by simp⟩
theorem near_step {j k : Int} {i : Nat} {b : Rat} {f : List (Int × Int)} {p : Int × Int} (h : NearOk j k i b f) (hp : coinsL[i]? = some p) (hj : Run j) (hk : Run k) : NearOk j k (i + 1) (nearS j k (b, f) p).1 (nearS j k (b, f) p).2 := by
  have sp := sz_off (sz_coinC (List.mem_of_getElem? hp) hj hk)
  have l := h.len
  refine ⟨?_, ?_, ?_⟩
  · rw [take_snoc hp, List.foldl_append, h.eq]; rfl
  · unfold nearS
    simp only
    split
    · exact sp
    · exact h.sz
  · unfold nearS
    simp only
    split <;> split <;> simp <;> omega
theorem p_nearest (C : ConsOk G) (h : R_nearest G ds m P) : ExS G.K E (t_nearest G E) (startT n_nearest ds) m (Fin P) := by
  obtain ⟨j, k, rfl, fj, fk, h1, h2, h3⟩ := h
  show ExS G.K E (t_nearest G E) [some j, some k, none, none, none, none] m (Fin P)
  refine s_seq (s_dropX (ev_callX (EvL.p (ds := [j, k, .int 40]) (by walk_at "ra") ⟨j, k, 40, rfl, fj, fk, ?_⟩)))
  cases cj : withinD j 1 40 with
  | false => rw [runOc_no cj]; exact h1 cj
  | true =>
    rw [runOc_ok cj]
    cases ck : withinD k 1 40 with
    | false => rw [runOc_no ck]; exact h2 cj ck
    | true =>
      rw [runOc_ok ck]
      have h3 := h3 cj ck
      obtain ⟨ej, j1, j2⟩ := within_int cj
      obtain ⟨ek, k1, k2⟩ := within_int ck
      rw [ej, ek]
      generalize intD j = j at *
      generalize intD k = k at *
      have rj : Run j := ⟨j1, j2⟩
      have rk : Run k := ⟨k1, k2⟩
      show ExS G.K E _ [some (.int j), some (.int k), none, none, none, none] m _
      refine s_seq (s_parP (ea_consP (EvD.p (ev_ONE C) (ea_consP (ev_lstM (EvL.p ea_nil ⟨by simp, fun l hl => ea_nilP ⟨_, _, rfl, ?_⟩⟩))))))
      show ExS G.K E _ [some (.int j), some (.int k), some (frD 1), some (.ref l), none, none] ((l, .lst (pairsD [])) :: m) _
      refine s_seq (s_for (wk_list e_all_coins) (fun i ts1 m1 => ∃ l b f o4 o5, l ∉ m.map (·.1) ∧ NearOk j k i b f ∧ m1 = (l, .lst (pairsD f)) :: m ∧ ts1 = [some (.int j), some (.int k), some (frD b), some (.ref l), o4, o5])
        ⟨l, 1, [], none, none, hl, near0 j k, rfl, rfl⟩ (fun _ _ _ _ => trivial) ?_ ?_)
      · rintro i dt ts1 m1 hi ⟨l, b, f, o4, o5, hl, hN, rfl, rfl⟩
        obtain ⟨p, hp, rfl⟩ : ∃ p, coinsL[i]? = some p ∧ dt = pairD2 p := by
          rw [pairsD, List.getElem?_map] at hi
          cases e : coinsL[i]? with
          | none => rw [e] at hi; cases hi
          | some p => rw [e] at hi; exact ⟨p, rfl, by simpa using hi.symm⟩
        have pm := List.mem_of_getElem? hp
        have il : i < coinsL.length := (List.getElem?_eq_some_iff.mp hp).1
        have cl := coins_len
        have hN2 := near_step hN hp rj rk
        have sp := sz_off (sz_coinC pm rj rk)
        refine ⟨_, _, gt_nm, ?_⟩
        show ExS G.K E _ [some (.int j), some (.int k), some (frD b), some (.ref l), some (pairD2 p), o5] _ _
        refine s_seq (s_asg (d := frD (offR (coinC p j k))) (ev_call (ea_cons (e_chance_by (ea_cons (e_coinOf rfl pm) (ea_cons (ev_var rfl) (ea_cons (ev_var rfl) (ea_cons ev_int ea_nil)))) (coins_mem pm).1 (coins_mem pm).2 rj rk (by omega) (by omega)) ea_nil) ⟨coinC p j k, 2300, rfl, sz_coinC pm rj rk, by decide, rfl, rfl⟩) ?_)
        generalize ha : offR (coinC p j k) = a at *
        have eS : nearS j k (b, f) p = ((if a < b then (a, []) else (b, f)).1, if a = (if a < b then (a, ([] : List (Int × Int))) else (b, f)).1 then (if a < b then (a, []) else (b, f)).2 ++ [p] else (if a < b then (a, []) else (b, f)).2) := by unfold nearS; simp only [ha]
        show ExS G.K E _ [some (.int j), some (.int k), some (frD b), some (.ref l), some (pairD2 p), some (frD a)] ((l, .lst (pairsD f)) :: m) _
        have tail : ∀ (l : Addr) (b2 : Rat) (f2 : List (Int × Int)), l ∉ m.map (·.1) → f2.length ≤ 81 → nearS j k (b, f) p = (b2, if a = b2 then f2 ++ [p] else f2) → ExS G.K E (tIfS (tTest (tOp (rEqD G.K) (tVar 5) (tVar 2))) (tDrop (tBM G.K "list" rAppend (tVar 3) (tCons (tVar 4) tNil))) tNext) [some (.int j), some (.int k), some (frD b2), some (.ref l), some (pairD2 p), some (frD a)] ((l, .lst (pairsD f2)) :: m)
            (fun o => match o with | .nx ts1 m1 => ∃ l b f o4 o5, l ∉ m.map (·.1) ∧ NearOk j k (i + 1) b f ∧ m1 = (l, .lst (pairsD f)) :: m ∧ ts1 = [some (.int j), some (.int k), some (frD b), some (.ref l), o4, o5] | _ => False) := fun l b2 f2 hl hf e => by
          rw [e] at hN2
          refine s_if (b := decide (a = b2)) (et_test (e_eqF (ev_var rfl) (ev_var rfl))) (fun c => ?_) (fun c => ?_)
          · have c := of_decide_eq_true c
            have hN2 : NearOk j k (i + 1) b2 (if a = b2 then f2 ++ [p] else f2) := hN2
            rw [if_pos c] at hN2
            refine s_dropP (ev_append (k := 0) (d := pairD2 p) (ds := pairsD f2) (ev_var rfl) (ev_var rfl) rfl (by rw [pairsD, List.length_map]; omega) ?_)
            refine ⟨l, b2, f2 ++ [p], _, _, hl, hN2, ?_, rfl⟩
            show (l, D.lst (pairsD f2 ++ [pairD2 p])) :: m = _
            unfold pairsD
            rw [List.map_append]; rfl
          · have c := of_decide_eq_false c
            have hN2 : NearOk j k (i + 1) b2 (if a = b2 then f2 ++ [p] else f2) := hN2
            rw [if_neg c] at hN2
            exact s_next ⟨l, b2, f2, _, _, hl, hN2, rfl, rfl⟩
        have imp : ∀ {t : TS} {ts2 : TSt} {m2 : Mem} {X : Oc → Prop} {Y : TSt → Mem → Prop}, ExS G.K E t ts2 m2 (fun o => match o with | .nx ts m => Y ts m | _ => False) → (∀ ts m, Y ts m → X (.nx ts m)) → ExS G.K E t ts2 m2 X := fun hh hx => ExS.imp hh fun o ho => by
          cases o with
          | nx ts m => exact hx ts m ho
          | _ => exact ho.elim
        have fl := hN.len
        refine s_seq (s_if (b := decide (a < b)) (et_B (e_is_less (n := 2303) (k := 2303) (ea_cons (ev_var rfl) (ea_cons (ev_var rfl) ea_nil)) sp hN.sz)) (fun c => ?_) (fun c => ?_))
        · have c := of_decide_eq_true c
          rw [if_pos c] at eS
          refine ExS.sub (s_parP (ea_consP (EvD.p (d := frD a) (ev_var rfl) (ea_consP (ev_lstM (EvL.p ea_nil ⟨by simp, fun l2 hl2 => ea_nilP ⟨_, _, rfl, (l2, .lst (pairsD [])) :: m, List.Sublist.cons₂ _ (List.Sublist.cons _ (List.Sublist.refl _)), ?_⟩⟩))))))
          exact imp (tail l2 a [] (fun z => hl2 (List.mem_cons_of_mem _ z)) (by decide) eS) fun _ _ h => h
        · have c := of_decide_eq_false c
          rw [if_neg c] at eS
          refine s_next ?_
          exact imp (tail l b f hl (by omega) eS) fun _ _ h => h
      · rintro ts1 m1 ⟨l, b, f, o4, o5, hl, hN, rfl, rfl⟩
        have e := hN.eq
        rw [pairsD, List.length_map, List.take_length] at e
        have e2 : nearL j k = f := by unfold nearL; rw [e]
        rw [e2] at h3
        exact s_ret (ev_var rfl) (h3 l hl)
end RA
set_option Elab.async false
set_option linter.all false
set_option maxRecDepth 100000
set_option maxHeartbeats 4000000
/-! The defs' readings (printed by gen.py). -/
namespace RA
open PySem PySem.Spec PyProof.Rows L2 Evl
/-- _law_coins: 0 _law_found, 1 _law_one, 2 _law_mate -/
def n__law_coins : List Str := ["_law_found", "_law_one", "_law_mate"]
def t__law_coins (G : Gam) (E : XK) : TS :=
  (tSeq (tAsg (tLst tNil) (gName 0))
    (tSeq (tFor (iRng2 (tCons (tC (.int 1)) (tCons (tC (.int 10)) tNil))) (gName 1) (tAsg (tOp (rCatL G.K) (tVar 0) (tLc (iRng2 (tCons (tC (.int 1)) (tCons (tC (.int 10)) tNil))) (gName 2) (tTest (tOp (rEqD G.K) (tCall (SpD G.K (R__law_frac G)) [] E0 (tCons (tVar 1) (tCons (tVar 2) tNil))) (tTup (tCons (tVar 1) (tCons (tVar 2) tNil))))) (tTup (tCons (tVar 1) (tCons (tVar 2) tNil))) [2])) (gName 0)))
    (tRet (tVar 0))))
/-- _law_off: 0 _law_one, 1 _law_found -/
def n__law_off : List Str := ["_law_one", "_law_found"]
def t__law_off (G : Gam) (E : XK) : TS :=
  (tSeq (tAsg (tCall (SpD G.K (R__law_sum G)) [] E (tCons (tVar 0) (tCons (tTup (tCons (tOp (rI0 fun i j => .int (i - j)) (tC (.int 0)) (tC (.int 1))) (tCons (tC (.int 2)) tNil))) tNil))) (gName 1))
    (tRet (tTup (tCons (tCB rAbs (tCons (tOp (rIxT G.K) (tVar 1) (tC (.int 0))) tNil)) (tCons (tOp (rIxT G.K) (tVar 1) (tC (.int 1))) tNil)))))
/-- _law_refused: 0 _law_values, 1 _law_kind, 2 _law_told, 3 e -/
def tb0__law_refused_k09 (G : Gam) (E2 : XK) : TS :=
  (tIfS (tTest (tOp rEq (tVar 1) (tC (.int 0)))) (tDrop (tCall (SpD G.K (R_fitting G)) [] E2 (tCons (tOp (rIxL G.K) (tVar 0) (tC (.int 0))) (tCons (tOp (rIxL G.K) (tVar 0) (tC (.int 1))) (tCons (tOp (rIxL G.K) (tVar 0) (tC (.int 2))) tNil))))) (tIfS (tTest (tOp rEq (tVar 1) (tC (.int 1)))) (tDrop (tCall (SpD G.K (R_nearest G)) [] E2 (tCons (tOp (rIxL G.K) (tVar 0) (tC (.int 0))) (tCons (tOp (rIxL G.K) (tVar 0) (tC (.int 1))) tNil)))) (tDrop (tCall (SpD G.K (R_fair G)) [] E2 (tCons (tMake G.cCoin (SpD G.K (R_Coin_init G)) [] E2 (tCons (tC (.int 1)) (tCons (tC (.int 1)) tNil))) (tCons (tOp (rIxL G.K) (tVar 0) (tC (.int 0))) tNil))))))
def n__law_refused_k09 : List Str := ["_law_values", "_law_kind", "_law_told", "e"]
def t__law_refused_k09 (G : Gam) (E : XK) : TS :=
  (tSeq (tAsg (tC .non) (gName 2))
    (tSeq (tTry G.K (fun cls d _ H => E cls d H) [((Value.ref G.cBadRun), (some 3), fun a cls d => (tAsg (tLst (tCons (tC (.str "run")) (tCons (tXf a cls d G.cBadRun "value" (tVar 3)) tNil))) (gName 2))), ((Value.ref G.cBadChance), none, fun a cls d => (tAsg (tC (.str "chance")) (gName 2))), ((Value.ref G.cBadCount), (some 3), fun a cls d => (tAsg (tLst (tCons (tC (.str "count")) (tCons (tXf a cls d G.cBadCount "value" (tVar 3)) tNil))) (gName 2)))] (fun W => tb0__law_refused_k09 G (EW 4 W)))
    (tRet (tVar 2))))
/-- law: 0 _law_script, 1 _law_row, 2 _law_d, 3 _law_runs_here, 4 _law_most, 5 _law_j, 6 _law_k, 7 _law_known, 8 _law_pair, 9 _law_told, 10 _law_one, 11 _law_share, 12 _law_best, 13 _law_due, 14 _law_here, 15 _law_every, 16 _law_coin, 17 _law_mate, 18 _law_bad, 19 _law_odd -/
def n_law_k09 : List Str := ["_law_script", "_law_row", "_law_d", "_law_runs_here", "_law_most", "_law_j", "_law_k", "_law_known", "_law_pair", "_law_told", "_law_one", "_law_share", "_law_best", "_law_due", "_law_here", "_law_every", "_law_coin", "_law_mate", "_law_bad", "_law_odd"]
def t_law_k09 (G : Gam) (E : XK) : TS :=
  (tSeq (tAsg (tLst (tCons (tVar 0) (tCons (tC (.int 0)) (tCons (tC (.int 229)) (tCons (tC (.int 0)) tNil))))) (gName 1))
    (tSeq (tPar3 2 3 4 (tCons (tCall (SpD G.K (R__law_drawn G)) [] E (tCons (tVar 1) tNil)) (tCons (tCall (SpD G.K (R__law_runs G)) [] E (tCons (tVar 1) (tCons (tC (.int 20)) tNil))) (tCons (tOp (rI0 fun i j => .int (i + j)) (tC (.int 1)) (tCall (SpD G.K (R__law_taken G)) [] E (tCons (tVar 1) (tCons (tC (.int 12)) tNil)))) tNil))))
    (tSeq (tAsg (tVar 3) (gLst G.K 2 (gCons (gName 5) (gCons (gName 6) gNil))))
    (tSeq (tAsg (tLc (iList G.K (tCall (SpD G.K (R__law_coins G)) [] E tNil)) (gName 8) tYes (tTup (tCons (tVar 8) (tCons (tCall (SpD G.K (R_chance G)) [] E0 (tCons (tMake G.cCoin (SpD G.K (R_Coin_init G)) [] E0 (tCons (tOp (rIxT G.K) (tVar 8) (tC (.int 0))) (tCons (tOp (rIxT G.K) (tVar 8) (tC (.int 1))) tNil))) (tCons (tVar 5) (tCons (tVar 6) (tCons (tC (.int 0)) tNil))))) tNil))) [8]) (gName 7))
    (tSeq (tAsg (tCall (SpD G.K (R_chance G)) [] E (tCons (tMake G.cCoin (SpD G.K (R_Coin_init G)) [] E (tCons (tOp (rIxT G.K) (tVar 2) (tC (.int 0))) (tCons (tOp (rIxT G.K) (tVar 2) (tC (.int 1))) tNil))) (tCons (tVar 5) (tCons (tVar 6) (tCons (tC (.int 0)) tNil))))) (gName 9))
    (tSeq (tFor (iList G.K (tLst (tCons (tVar 9) (tCons (tTup (tCons (tC (.int 1)) (tCons (tC (.int 2)) tNil))) (tCons (tTup (tCons (tC (.int 0)) (tCons (tC (.int 1)) tNil))) tNil))))) (gName 10) (tIfS (tTest (tOp (rNeD G.K) (tCall (SpD G.K (R_fitting G)) [] E (tCons (tVar 5) (tCons (tVar 6) (tCons (tVar 10) tNil)))) (tLc (iList G.K (tVar 7)) (gTup G.K 2 (gCons (gName 8) (gCons (gName 11) gNil))) (tTest (tOp (rEqD G.K) (tVar 11) (tVar 10))) (tVar 8) [8, 11]))) (tRet (tC (.bl false))) tNext))
    (tSeq (tPar 12 13 (tCons (tTup (tCons (tC (.int 1)) (tCons (tC (.int 1)) tNil))) (tCons (tLst tNil) tNil)))
    (tSeq (tFor (iList G.K (tVar 7)) (gTup G.K 2 (gCons (gName 8) (gCons (gName 11) gNil))) (tSeq (tAsg (tCall (SpD G.K (R__law_off G)) [] E (tCons (tVar 11) tNil)) (gName 14))
    (tSeq (tIfS (tTest (tOp (rI0 fun i j => .bl (decide (i < j))) (tOp (rI CMulW fun i j => .int (i * j)) (tOp (rIxT G.K) (tVar 14) (tC (.int 0))) (tOp (rIxT G.K) (tVar 12) (tC (.int 1)))) (tOp (rI CMulW fun i j => .int (i * j)) (tOp (rIxT G.K) (tVar 12) (tC (.int 0))) (tOp (rIxT G.K) (tVar 14) (tC (.int 1)))))) (tPar 12 13 (tCons (tVar 14) (tCons (tLst tNil) tNil))) tNext)
    (tAsg (tOp (rCatL G.K) (tVar 13) (tOp rRep (tLst (tCons (tVar 8) tNil)) (tCB rInt1 (tCons (tOp (rEqD G.K) (tVar 14) (tVar 12)) tNil)))) (gName 13)))))
    (tSeq (tIfS (tTest (tOp (rNeD G.K) (tCall (SpD G.K (R_nearest G)) [] E (tCons (tVar 5) (tCons (tVar 6) tNil))) (tVar 13))) (tRet (tC (.bl false))) tNext)
    (tSeq (tAsg (tTup (tCons (tLst tNil) (tCons (tMake G.cCoin (SpD G.K (R_Coin_init G)) [] E (tCons (tOp (rIxT G.K) (tVar 2) (tC (.int 0))) (tCons (tOp (rIxT G.K) (tVar 2) (tC (.int 1))) tNil))) tNil))) (gTup G.K 2 (gCons (gName 15) (gCons (gName 16) gNil))))
    (tSeq (tFor (iRng2 (tCons (tC (.int 1)) (tCons (tOp (rI0 fun i j => .int (i + j)) (tVar 4) (tC (.int 1))) tNil))) (gName 10) (tAsg (tOp (rCatL G.K) (tVar 15) (tLc (iRng2 (tCons (tC (.int 1)) (tCons (tOp (rI0 fun i j => .int (i + j)) (tVar 4) (tC (.int 1))) tNil))) (gName 17) (tTest (tOp (rEqD G.K) (tCall (SpD G.K (R_chance G)) [] E0 (tCons (tVar 16) (tCons (tVar 10) (tCons (tVar 17) (tCons (tC (.int 0)) tNil))))) (tTup (tCons (tC (.int 1)) (tCons (tC (.int 2)) tNil))))) (tTup (tCons (tVar 10) (tCons (tVar 17) tNil))) [17])) (gName 15)))
    (tSeq (tIfS (tTest (tOp (rNeD G.K) (tCall (SpD G.K (R_fair G)) [] E (tCons (tVar 16) (tCons (tVar 4) tNil))) (tVar 15))) (tRet (tC (.bl false))) tNext)
    (tSeq (tAsg (tOp (rIxL G.K) (tLst (tCons (tC (.int 0)) (tCons (tC (.int 41)) (tCons (tC .non) (tCons (tC (.bl true)) (tCons (tC (.str "1")) tNil)))))) (tCall (SpD G.K (R__law_taken G)) [] E (tCons (tVar 1) (tCons (tC (.int 5)) tNil)))) (gName 18))
    (tSeq (tIfS (tOr (tTest (tOp (rNeD G.K) (tCall (SpD G.K (R__law_refused_k09 G)) [] E (tCons (tLst (tCons (tVar 18) (tCons (tVar 18) (tCons (tC (.int 1)) tNil)))) (tCons (tC (.int 0)) tNil))) (tLst (tCons (tC (.str "run")) (tCons (tVar 18) tNil))))) (tTest (tOp (rNeD G.K) (tCall (SpD G.K (R__law_refused_k09 G)) [] E (tCons (tLst (tCons (tVar 5) (tCons (tVar 18) tNil))) (tCons (tC (.int 1)) tNil))) (tLst (tCons (tC (.str "run")) (tCons (tVar 18) tNil)))))) (tRet (tC (.bl false))) tNext)
    (tSeq (tAsg (tLst (tCons (tC .non) (tCons (tC (.int 1)) (tCons (tTup (tCons (tC (.int 2)) (tCons (tC (.int 4)) tNil))) (tCons (tTup (tCons (tC (.int 1)) (tCons (tC (.int 0)) tNil))) (tCons (tLst (tCons (tC (.int 1)) (tCons (tC (.int 2)) tNil))) (tCons (tC (.str "1")) tNil))))))) (gName 19))
    (tSeq (tIfS (tTest (tOp (rNeD G.K) (tCall (SpD G.K (R__law_refused_k09 G)) [] E (tCons (tLst (tCons (tVar 5) (tCons (tVar 6) (tCons (tOp (rIxL G.K) (tVar 19) (tCall (SpD G.K (R__law_taken G)) [] E (tCons (tVar 1) (tCons (tCB (rLen G.K) (tCons (tVar 19) tNil)) tNil)))) tNil)))) (tCons (tC (.int 0)) tNil))) (tC (.str "chance")))) (tRet (tC (.bl false))) tNext)
    (tRet (tAndV (tOp (rEqD G.K) (tCall (SpD G.K (R__law_refused_k09 G)) [] E (tCons (tLst (tCons (tVar 18) tNil)) (tCons (tC (.int 2)) tNil))) (tLst (tCons (tC (.str "count")) (tCons (tVar 18) tNil)))) (tOp (rEqD G.K) (tCall (SpD G.K (R__law_refused_k09 G)) [] E (tCons (tLst (tCons (tC (.int 31)) tNil)) (tCons (tC (.int 2)) tNil))) (tLst (tCons (tC (.str "count")) (tCons (tC (.int 31)) tNil))))))))))))))))))))))
end RA
set_option Elab.async false
set_option linter.all false
set_option maxRecDepth 100000
set_option maxHeartbeats 1000000
namespace RA
open PySem PySem.Spec PyProof.Rows L2 Evl
/-! the walk over a reading -/
local macro_rules | `(tactic| walk_at "ra1") => `(tactic| first
  | exact ev_int
  | exact ev_bl
  | exact ev_non
  | exact ev_str
  | exact ev_ty
  | exact ev_ref
  | (refine ev_var ?_; rfl)
  | exact ea_nil
  | apply ea_cons
  | apply ev_opI0
  | apply ev_opB0
  | apply ev_opI
  | refine ev_neg ?_
  | apply ev_ixT
  | (show atI _ _ = some _; rfl)
  | refine ev_tup ?_ (by first | decide | simp)
  | apply ev_cb
  | apply ev_call
  | refine et_test ?_
  | refine et_B ?_
  | refine et_not ?_
  | exact et_yes)
local macro_rules | `(tactic| walk_at "ra") => `(tactic| repeat' (walk_at "ra1"))

variable {G : Gam} {ds : List D} {ts : TSt} {m : Mem} {P : Oc → Prop} {E : XK} {tl : TA}
/-- frac(a, b) == (a, b) -/
theorem e_isLow {ta tb : TE} {a b : Int} (h : EvD G.K ta ts m (frD (Rat.divInt a b))) (h2 : EvD G.K tb ts m (.tup [.int a, .int b])) (ha : 1 ≤ a) (hb : 1 ≤ b) : EvD G.K (tOp (rEqD G.K) ta tb) ts m (.bl (decide (Int.gcd a b = 1))) := by
  by_cases c : Int.gcd a b = 1
  · rw [decide_eq_true c]
    rw [frD_mk (by omega) c] at h
    exact e_eqSame h h2 (n := 1) (lay_tup fun d hd => by
      simp only [List.mem_cons, List.not_mem_nil, or_false] at hd
      rcases hd with rfl | rfl <;> exact lay_int _ _) (by decide)
  · rw [decide_eq_false c]
    have g0 : 0 < Int.gcd a b := by
      rcases Nat.eq_zero_or_pos (Int.gcd a b) with z | z
      · have := Int.gcd_eq_zero_iff.mp z; omega
      · exact z
    have hd : ((Rat.divInt a b).den : Int) ≠ b := by
      rw [divInt_den_pos (by omega)]
      intro z
      have dv := Int.ediv_mul_cancel (Int.gcd_dvd_right a b)
      rw [z] at dv
      have g2 : (2 : Int) ≤ (Int.gcd a b : Int) := by omega
      have : b * 2 ≤ b * (Int.gcd a b : Int) := Int.mul_le_mul_of_nonneg_left g2 (by omega)
      omega
    refine EvD.is (ev_eqD h h2 (p1 := .tuple [.int (Rat.divInt a b).num, .int (Rat.divInt a b).den]) (p2 := .tuple [.int a, .int b]) rfl rfl (by rfl) (by rfl)) (congrArg D.bl ?_)
    simp [PyData.eqv, PyData.eqvAll, hd]
def lawC (i : Nat) : List (Int × Int) := (List.range i).flatMap fun a : Nat => ((List.range 9).map fun b : Nat => ((1 + (a : Int), 1 + (b : Int)) : Int × Int)).filter fun p => decide (Int.gcd p.1 p.2 = 1)
theorem lawC_all : lawC 9 = coinsL := by decide +kernel
theorem lawC_succ (i : Nat) : lawC (i + 1) = lawC i ++ ((List.range 9).map fun b : Nat => ((1 + (i : Int), 1 + (b : Int)) : Int × Int)).filter fun p => decide (Int.gcd p.1 p.2 = 1) := by
  unfold lawC
  rw [List.range_succ (n := i), List.flatMap_append]; simp
theorem lawC_len : ∀ i, (lawC i).length ≤ 9 * i
  | 0 => by simp [lawC]
  | i + 1 => by
    rw [lawC_succ, List.length_append]
    have h1 := lawC_len i
    have h2 : (((List.range 9).map fun b : Nat => ((1 + (i : Int), 1 + (b : Int)) : Int × Int)).filter fun p => decide (Int.gcd p.1 p.2 = 1)).length ≤ 9 := Nat.le_trans (List.length_filter_le _ _) (by simp)
    omega
/-- [(a, b) for b in range(1, n + 1) if ..] -/
theorem row_D (a n : Int) (h : 0 ≤ n) (f : Int × Int → Bool) : lcD (rngD 1 (n + 1)) (fun d => f (a, intD d)) (fun d => .tup [.int a, d]) = pairsD (((List.range n.toNat).map fun b : Nat => ((a, 1 + (b : Int)) : Int × Int)).filter f) := by
  unfold lcD rngD pairsD
  have e : (n + 1 - 1).toNat = n.toNat := by omega
  rw [e, List.filter_map, List.map_map, List.filter_map, List.map_map]
  rfl
theorem pairs_app (l r : List (Int × Int)) : pairsD l ++ pairsD r = pairsD (l ++ r) := by unfold pairsD; rw [List.map_append]
theorem p__law_coins (h : R__law_coins G ds m P) : ExS G.K E (t__law_coins G E) (startT n__law_coins ds) m (Fin P) := by
  obtain ⟨rfl, h⟩ := h
  show ExS G.K E (t__law_coins G E) [none, none, none] m (Fin P)
  refine s_seq (s_asg (d := .lst (pairsD (lawC 0))) (ev_lst ea_nil (show (0 : Nat) ≤ 100000 by decide)) ?_)
  refine s_seq (s_for (wk_rng2 (lo := 1) (n := 10) (by walk_at "ra") (by decide)) (fun i ts1 m1 => ∃ o1 o2, m1 = m ∧ i ≤ 9 ∧ ts1 = [some (.lst (pairsD (lawC i))), o1, o2])
    ⟨none, none, rfl, by decide, rfl⟩ (fun _ _ _ _ => trivial) ?_ ?_)
  · rintro i dt ts1 m1 hi ⟨o1, o2, rfl, hl, rfl⟩
    obtain ⟨rfl, hlt⟩ := rngD_at hi
    have ll := lawC_len i
    refine ⟨_, _, gt_nm, ?_⟩
    show ExS G.K E _ [some (.lst (pairsD (lawC i))), some (.int (1 + (i : Int))), o2] m1 _
    have comp := row_D (1 + (i : Int)) 9 (by decide) (fun p => decide (Int.gcd p.1 p.2 = 1))
    refine s_asg (d := .lst (pairsD (lawC (i + 1)))) (EvD.is (ev_catL (ev_var rfl) (EvD.is (ev_lc (wk_rng2 (lo := 1) (n := 9 + 1) (by walk_at "ra") (by decide)) (fun d => decide (Int.gcd (1 + (i : Int)) (intD d) = 1)) (fun d => .tup [.int (1 + (i : Int)), d]) (by simp [rngD]) (fun d l acc hd => ?_)) (congrArg D.lst comp)) ?_) ?_) ⟨_, _, rfl, by omega, rfl⟩
    · obtain ⟨b, hb, rfl⟩ := List.mem_map.mp hd
      rw [List.mem_range] at hb
      have hb : b < 9 := hb
      refine ⟨_, gt_nm, et_test (e_isLow (ev_call (ea_cons (ev_var rfl) (ea_cons (ev_var rfl) ea_nil)) ⟨1 + (i : Int), 1 + (b : Int), rfl, by omega, sm_share (by omega), sm_share (by omega), rfl, rfl⟩) (ev_tup (ea_cons (ev_var rfl) (ea_cons (ev_var rfl) ea_nil)) (by simp)) (show 1 ≤ 1 + (i : Int) by omega) (show 1 ≤ 1 + (b : Int) by omega)), fun _ => ev_tup (ea_cons (ev_var rfl) (ea_cons (ev_var rfl) ea_nil)) (by simp)⟩
    · have h2 : (pairsD (((List.range (9 : Int).toNat).map fun b : Nat => ((1 + (i : Int), 1 + (b : Int)) : Int × Int)).filter fun p => decide (Int.gcd p.1 p.2 = 1))).length ≤ 9 := by
        rw [pairsD, List.length_map]
        exact Nat.le_trans (List.length_filter_le _ _) (by simp)
      rw [pairsD, List.length_map]
      omega
    · rw [pairs_app, lawC_succ]; rfl
  · rintro ts1 m1 ⟨o1, o2, rfl, hl, rfl⟩
    have e : (rngD 1 10).length = 9 := by simp [rngD]
    rw [e, lawC_all]
    exact s_ret (ev_var rfl) h
theorem abs_off (x : Rat) : D.tup [.int (if x.num < 0 then -x.num else x.num), .int x.den] = frD (if 0 ≤ x then x else -x) := by
  have e : (0 ≤ x.num) ↔ 0 ≤ x := Rat.num_nonneg
  by_cases c : 0 ≤ x
  · rw [if_pos c, if_neg (by have := e.mpr c; omega)]; rfl
  · rw [if_neg c, if_pos (by have : ¬ 0 ≤ x.num := fun z => c (e.mp z); omega), frD_neg]
theorem frD_mhalf : frD (-(1 / 2)) = .tup [.int (0 - 1), .int 2] := by
  have e : (-(1 / 2) : Rat).num = -1 ∧ (-(1 / 2) : Rat).den = 2 := by decide +kernel
  unfold frD; rw [e.1, e.2]; rfl
theorem isFrac_fr (q : Rat) : isFracD (frD q) = true := by
  show (decide (0 < (q.den : Int)) && decide (Int.gcd q.num q.den = 1)) = true
  have := q.den_pos
  rw [decide_eq_true (by omega : (0 : Int) < q.den), decide_eq_true (gcd_red q)]; rfl
theorem p__law_off (h : R__law_off G ds m P) : ExS G.K E (t__law_off G E) (startT n__law_off ds) m (Fin P) := by
  obtain ⟨c, n, rfl, hc, hn, h⟩ := h
  show ExS G.K E (t__law_off G E) [some (frD c), none] m (Fin P)
  have e1 : c + -(1 / 2) = c - 1 / 2 := by grind
  refine s_seq (s_asg (d := frD (c - 1 / 2)) (EvD.is (e_lsum (q := -(1 / 2)) (ea_cons (ev_var rfl) (ea_cons (by rw [frD_mhalf]; walk_at "ra") ea_nil)) hc sz_half.neg (by omega)) (by rw [e1])) ?_)
  unfold offR at h
  generalize c - 1 / 2 = x at *
  show ExS G.K E _ [some (frD c), some (.tup [.int x.num, .int x.den])] m _
  exact s_ret (EvD.is (ev_tup (ea_cons (ev_cb (ea_cons (ev_ixT (ev_var rfl) ev_int rfl) ea_nil) cb_abs) (ea_cons (ev_ixT (ev_var rfl) ev_int rfl) ea_nil)) (by simp)) (abs_off x)) h
structure XFit (G : Gam) : Prop where
  rr : PySem.W.exmOne G.K (.ref G.cBadRun) (.ref G.cBadRun) = some true
  cc : PySem.W.exmOne G.K (.ref G.cBadCount) (.ref G.cBadCount) = some true
  hh : PySem.W.exmOne G.K (.ref G.cBadChance) (.ref G.cBadChance) = some true
  cr : PySem.W.exmOne G.K (.ref G.cBadCount) (.ref G.cBadRun) = some false
  ch : PySem.W.exmOne G.K (.ref G.cBadCount) (.ref G.cBadChance) = some false
  hr : PySem.W.exmOne G.K (.ref G.cBadChance) (.ref G.cBadRun) = some false
theorem p__law_refused_k09 (X : XFit G) (h : R__law_refused_k09 G ds m P) : ExS G.K E (t__law_refused_k09 G E) (startT n__law_refused_k09 ds) m (Fin P) := by
  obtain ⟨vs, kind, r, rfl, hc, p⟩ := h
  show ExS G.K E (t__law_refused_k09 G E) [some (.lst vs), some (.int kind), none, none] m (Fin P)
  refine s_seq (s_asg (d := .non) (by walk_at "ra") ?_)
  show ExS G.K E _ [some (.lst vs), some (.int kind), some .non, none] m (Fin P)
  have tk : ∀ (c : Int) {E' : XK}, EvT G.K (tTest (tOp rEq (tVar 1) (tC (.int c)))) [some (.lst vs), some (.int kind), some .non, none] m (decide (kind = c)) := fun c {E'} => et_test (ev_eq (d1 := .int kind) (d2 := .int c) (ev_var rfl) ev_int rfl)
  refine s_seq (s_tryE (tb := tb0__law_refused_k09 G) (fun _ _ _ _ h => h) fun E' => ?_)
  rcases hc with ⟨j, k, t, rfl, rfl, fj, fk, ft, hc⟩ | ⟨j, k, rfl, rfl, fj, fk, cj, ck, rfl⟩ | ⟨n, rfl, rfl, fn, cn, rfl⟩
  · refine s_if1 (EvT.is (tk 0 (E' := E')) rfl) (s_dropX (ev_callX (EvL.p (ds := [j, k, t]) (ea_cons (ev_ixL (ev_var rfl) ev_int rfl) (ea_cons (ev_ixL (ev_var rfl) ev_int rfl) (ea_cons (ev_ixL (ev_var rfl) ev_int rfl) ea_nil))) ⟨j, k, t, rfl, fj, fk, ft, fun z => ?_, fun z z2 => ?_, fun z z2 z3 => ?_, fun z z2 q e => ?_⟩)))
    · rcases hc with ⟨c, rfl⟩ | ⟨c, _⟩
      · exact catch_val X.rr (fun _ => rfl) (fun _ _ => rfl) (s_ret (ev_var rfl) p)
      · rw [c] at z; cases z
    · rcases hc with ⟨c, rfl⟩ | ⟨_, c, _⟩
      · rw [c] at z; cases z
      · rw [c] at z2; cases z2
    · rcases hc with ⟨c, rfl⟩ | ⟨_, _, _, rfl⟩
      · rw [c] at z; cases z
      · exact catch_skip X.hr (catch_con X.hh (fun _ => .str _) (s_ret (ev_var rfl) p))
    · rcases hc with ⟨c, rfl⟩ | ⟨_, _, c, _⟩
      · rw [c] at z; cases z
      · rw [e] at c
        have c2 := isFrac_fr q
        rw [c2] at c; cases c
  · refine s_if0 (EvT.is (tk 0 (E' := E')) rfl) (s_if1 (EvT.is (tk 1 (E' := E')) rfl) (s_dropX (ev_callX (EvL.p (ds := [j, k]) (ea_cons (ev_ixL (ev_var rfl) ev_int rfl) (ea_cons (ev_ixL (ev_var rfl) ev_int rfl) ea_nil)) ⟨j, k, rfl, fj, fk, fun z => ?_, fun z z2 => ?_, fun z z2 => ?_⟩))))
    · rw [cj] at z; cases z
    · exact catch_val X.rr (fun _ => rfl) (fun _ _ => rfl) (s_ret (ev_var rfl) p)
    · rw [ck] at z2; cases z2
  · refine s_if0 (EvT.is (tk 0 (E' := E')) rfl) (s_if0 (EvT.is (tk 1 (E' := E')) rfl) (s_dropX (ev_callX (EvL.p (ds := [coinD G 1 1, n]) (ea_cons (ev_coinD (by walk_at "ra") ⟨by decide, by decide⟩ ⟨by decide, by decide⟩) (ea_cons (ev_ixL (ev_var rfl) ev_int rfl) ea_nil)) ⟨1, 1, n, rfl, ⟨by decide, by decide⟩, ⟨by decide, by decide⟩, fn, fun z => ?_, fun z => ?_⟩))))
    · rw [cn] at z; cases z
    · exact catch_skip X.cr (catch_skip X.ch (catch_val X.cc (fun _ => rfl) (fun _ _ => rfl) (s_ret (ev_var rfl) p)))
/-! the law -/
def knownD (j k : Int) : List D := coinsL.map fun p => .tup [pairD2 p, frD (coinC p j k)]
def kfst : D → D
  | .tup [a, _] => a
  | d => d
theorem known_lc (j k : Int) : lcD (pairsD coinsL) (fun _ => true) (fun d => .tup [d, frD (coinC (fstD d, sndD d) j k)]) = knownD j k := by
  unfold lcD pairsD knownD
  rw [List.filter_eq_self.mpr (fun _ _ => rfl), List.map_map]; rfl
theorem known_fit (j k : Int) (q : Rat) : lcD (knownD j k) (fun d => decide (coinC (fstD (kfst d), sndD (kfst d)) j k = q)) kfst = pairsD (fitL j k q) := by
  unfold lcD knownD pairsD fitL
  rw [List.filter_map, List.map_map]; rfl
theorem known_get {j k : Int} {i : Nat} {dt : D} (h : (knownD j k)[i]? = some dt) : ∃ p, coinsL[i]? = some p ∧ dt = .tup [pairD2 p, frD (coinC p j k)] := by
  unfold knownD at h
  rw [List.getElem?_map] at h
  cases e : coinsL[i]? with
  | none => rw [e] at h; cases h
  | some p => rw [e] at h; exact ⟨p, rfl, by simpa using h.symm⟩
theorem lay_pairs (l : List (Int × Int)) : Lay (.lst (pairsD l)) 2 := lay_lst fun d hd => by
  obtain ⟨p, _, rfl⟩ := List.mem_map.mp hd
  exact lay_tup fun x hx => by
    simp only [List.mem_cons, List.not_mem_nil, or_false] at hx
    rcases hx with rfl | rfl <;> exact lay_int _ _
theorem frok_fr {q : Rat} {n : Nat} (h : Sz n q) (hn : n ≤ 9000) : FrOk (frD q) := ⟨rfl, fun a b e => by
  unfold frD at e
  simp only [D.tup.injEq, List.cons.injEq, and_true] at e
  obtain ⟨rfl, rfl⟩ := e
  exact ⟨rfl, rfl, fun i z => by cases z; exact sm9 h.num hn, fun i z => by cases z; exact sm9 (den_lt h) hn⟩⟩
theorem e_fitting {j k : Int} {q : Rat} {n : Nat} (h : EvL G.K tl ts m [.int j, .int k, frD q]) (hj : Run j) (hk : Run k) (hq : Sz n q) (hn : n ≤ 9000) : EvD G.K (tCall (SpD G.K (R_fitting G)) [] E tl) ts m (.lst (pairsD (fitL j k q))) :=
  EvP.freeze (ev_callP (h.p ⟨.int j, .int k, frD q, rfl, rfl, rfl, frok_fr hq hn, fun z => absurd z (by rw [within_run hj]; decide), fun _ z => absurd z (by rw [within_run hk]; decide), fun _ _ z => absurd z (by rw [isFrac_fr q]; decide), fun _ _ q' e l _ => by
    have e2 : q' = q := by
      unfold frD at e
      simp only [D.tup.injEq, List.cons.injEq, D.int.injEq, and_true] at e
      exact Rat.ext e.1.symm (by omega)
    subst e2
    exact ⟨l, _, m, rfl, rfl, rfl, rfl⟩⟩))
theorem e_nearest {j k : Int} (h : EvL G.K tl ts m [.int j, .int k]) (hj : Run j) (hk : Run k) : EvD G.K (tCall (SpD G.K (R_nearest G)) [] E tl) ts m (.lst (pairsD (nearL j k))) :=
  EvP.freeze (ev_callP (h.p ⟨.int j, .int k, rfl, rfl, rfl, fun z => absurd z (by rw [within_run hj]; decide), fun _ z => absurd z (by rw [within_run hk]; decide), fun _ _ l _ => ⟨l, _, m, rfl, rfl, rfl, rfl⟩⟩))
theorem e_fair {u d n : Int} (h : EvL G.K tl ts m [coinD G u d, .int n]) (hu : Share u) (hd : Share d) (h1 : 1 ≤ n) (h2 : n ≤ 30) : EvD G.K (tCall (SpD G.K (R_fair G)) [] E tl) ts m (.lst (pairsD (fairL u d n))) :=
  EvP.freeze (ev_callP (h.p ⟨u, d, .int n, rfl, hu, hd, rfl, fun _ l _ => ⟨l, _, m, rfl, rfl, rfl, rfl⟩, fun z => absurd z (by rw [within_st h1 h2]; decide)⟩))
def evL (u d : Int) (n i : Nat) : List (Int × Int) := ((List.range i).flatMap fun a : Nat => (List.range n).map fun b : Nat => ((1 + (a : Int), 1 + (b : Int)) : Int × Int)).filter fun p => decide (chanceR (pOf u d) (pOf d u) p.1 p.2 0 = 1 / 2)
theorem evL_zero (u d : Int) (n : Nat) : evL u d n 0 = [] := by simp [evL]
theorem ev_pairs0 {G : Gam} {ts : TSt} {m : Mem} {l : List (Int × Int)} (h : l = []) : EvD G.K (tLst tNil) ts m (.lst (pairsD l)) := by
  subst h
  exact ev_lst (ds := []) ea_nil (Nat.zero_le _)
theorem evL_all (u d n : Int) : evL u d n.toNat n.toNat = fairL u d n := rfl
theorem evL_succ (u d : Int) (n i : Nat) : evL u d n (i + 1) = evL u d n i ++ ((List.range n).map fun b : Nat => ((1 + (i : Int), 1 + (b : Int)) : Int × Int)).filter fun p => decide (chanceR (pOf u d) (pOf d u) p.1 p.2 0 = 1 / 2) := by
  unfold evL
  rw [List.range_succ (n := i), List.flatMap_append, List.filter_append]; simp
theorem evL_len (u d : Int) (n : Nat) : ∀ i, (evL u d n i).length ≤ n * i
  | 0 => by simp [evL]
  | i + 1 => by
    rw [evL_succ, List.length_append, Nat.mul_succ]
    have h1 := evL_len u d n i
    have h2 : (((List.range n).map fun b : Nat => ((1 + (i : Int), 1 + (b : Int)) : Int × Int)).filter fun p => decide (chanceR (pOf u d) (pOf d u) p.1 p.2 0 = 1 / 2)).length ≤ n := Nat.le_trans (List.length_filter_le _ _) (by simp)
    omega
def badF6 : List D := [.non, .int 1, .tup [.int 2, .int 4], .tup [.int 1, .int 0], .lst [.int 1, .int 2], .str "1"]
theorem bad_f {x : Int} (h0 : 0 ≤ x) (h : x < 6) : ∃ b, atI badF6 x = some b ∧ FrOk b ∧ isFracD b = false := by
  have two : ∀ x y : Int, x.natAbs < 100 → y.natAbs < 100 → FrOk (.tup [.int x, .int y]) := fun x y hx hy => ⟨rfl, fun a b e => by
    simp only [D.tup.injEq, List.cons.injEq, and_true] at e
    obtain ⟨rfl, rfl⟩ := e
    exact ⟨rfl, rfl, fun i z => by cases z; exact sm_share hx, fun i z => by cases z; exact sm_share hy⟩⟩
  rcases (by omega : x = 0 ∨ x = 1 ∨ x = 2 ∨ x = 3 ∨ x = 4 ∨ x = 5) with rfl | rfl | rfl | rfl | rfl | rfl
  · exact ⟨_, rfl, ⟨rfl, fun a b e => nomatch e⟩, rfl⟩
  · exact ⟨_, rfl, ⟨rfl, fun a b e => nomatch e⟩, rfl⟩
  · exact ⟨_, rfl, two 2 4 (by decide) (by decide), by decide⟩
  · exact ⟨_, rfl, two 1 0 (by decide) (by decide), by decide⟩
  · exact ⟨_, rfl, ⟨rfl, fun a b e => nomatch e⟩, rfl⟩
  · exact ⟨_, rfl, ⟨rfl, fun a b e => nomatch e⟩, rfl⟩
theorem frD_half : frD (1 / 2) = .tup [.int 1, .int 2] := by
  have e : (1 / 2 : Rat).num = 1 ∧ (1 / 2 : Rat).den = 2 := by decide +kernel
  unfold frD; rw [e.1, e.2]; rfl
theorem runs30 {b : D} (h : withinD b 1 40 = false) : withinD b 1 30 = false := by
  cases b with
  | int i =>
    simp only [withinD, Bool.and_eq_false_iff, decide_eq_false_iff_not] at h ⊢
    omega
  | _ => rfl
theorem frok1 : FrOk (.int 1) := ⟨rfl, fun a b e => nomatch e⟩
theorem p_law_k09 (h : R_law G ds m P) : ExS G.K E (t_law_k09 G E) (startT n_law_k09 ds) m (Fin P) := by
  obtain ⟨ns, rfl, rfl, hn, p⟩ := h
  show ExS G.K E (t_law_k09 G E) [some (.lst (ns.map .int)), none, none, none, none, none, none, none, none, none, none, none, none, none, none, none, none, none, none, none] [] (Fin P)
  refine s_seq (s_asgP (ev_lstM (EvL.p (ds := [.lst (ns.map .int), .int 0, .int 229, .int 0]) (by walk_at "ra") ⟨by simp, fun l _ => ?_⟩)))
  show ExS G.K E _ [some (.lst (ns.map .int)), some (.ref l), none, none, none, none, none, none, none, none, none, none, none, none, none, none, none, none, none, none] [(l, rowD ns 0 229 0)] (Fin P)
  refine s_seq (s_par3P (ea_consP (ev_callP (EvL.p (ds := [.ref l]) (by walk_at "ra") ⟨l, rfl, 0, _, rfl, row0 hn (by decide), fun u d r1 hab hr1 => ?_⟩))))
  refine ea_consP (ev_callP (EvL.p (ds := [.ref l, .int 20]) (by walk_at "ra") ⟨l, 20, rfl, by decide, by decide, 0, r1, rfl, hr1, fun j k r2 j1 j2 k1 k2 hr2 => ?_⟩))
  refine ea_consP (ev_opP (EvD.p (d := .int 1) ev_int (ev_taken (r := r2) (k := 0) (by walk_at "ra") (by decide) (by decide) rfl hr2 fun n0 r3 z0 z9 hr3 => ⟨_, od_I0 fun _ => .int _, ea_nilP ⟨_, _, _, rfl, ?_⟩⟩)))
  obtain ⟨su, sd⟩ := drawn_share hab
  have rj : Run j := ⟨j1, by omega⟩
  have rk : Run k := ⟨k1, by omega⟩
  have b1 : 1 ≤ 1 + n0 := by omega
  have b2 : 1 + n0 ≤ 12 := by omega
  generalize 1 + n0 = n at *
  show ExS G.K E _ [some (.lst (ns.map .int)), some (.ref l), some (.tup [.int u, .int d]), some (.lst [.int j, .int k]), some (.int n), none, none, none, none, none, none, none, none, none, none, none, none, none, none, none] [(l, r3)] _
  refine s_seq (s_asgGP (EvD.p (d := .lst [.int j, .int k]) (by walk_at "ra") ⟨_, _, gl_two, ?_⟩))
  show ExS G.K E _ [some (.lst (ns.map .int)), some (.ref l), some (.tup [.int u, .int d]), some (.lst [.int j, .int k]), some (.int n), some (.int j), some (.int k), none, none, none, none, none, none, none, none, none, none, none, none, none] [(l, r3)] _
  have cl := coins_len
  refine s_seq (s_asg (d := .lst (knownD j k)) (EvD.is (ev_lc (wk_list (ev_call ea_nil ⟨rfl, rfl, rfl⟩)) (fun _ => true) (fun x => .tup [x, frD (coinC (fstD x, sndD x) j k)]) (by rw [pairsD, List.length_map]; omega) (fun x l' acc hx => ?_)) (congrArg D.lst (known_lc j k))) ?_)
  · obtain ⟨q, hq, rfl⟩ := List.mem_map.mp hx
    exact ⟨_, gt_nm, et_yes, fun _ => ev_tup (ea_cons (ev_var rfl) (ea_cons (e_chance (ea_cons (e_coinOf rfl hq) (ea_cons (ev_var rfl) (ea_cons (ev_var rfl) (ea_cons ev_int ea_nil)))) (coins_mem hq).1 (coins_mem hq).2 rj rk (by omega) (by omega)) ea_nil)) (by simp)⟩
  show ExS G.K E _ [some (.lst (ns.map .int)), some (.ref l), some (.tup [.int u, .int d]), some (.lst [.int j, .int k]), some (.int n), some (.int j), some (.int k), some (.lst (knownD j k)), none, none, none, none, none, none, none, none, none, none, none, none] [(l, r3)] _
  refine s_seq (s_asg (d := (frD (chanceR (pOf u d) (pOf d u) j k 0))) (e_chance (ea_cons (ev_coinD (by walk_at "ra") su sd) (by walk_at "ra")) su sd rj rk (by omega) (by omega)) ?_)
  have sC := sz_chance (s := 0) su sd rj rk (by omega) (by omega)
  show ExS G.K E _ [some (.lst (ns.map .int)), some (.ref l), some (.tup [.int u, .int d]), some (.lst [.int j, .int k]), some (.int n), some (.int j), some (.int k), some (.lst (knownD j k)), none, some (frD (chanceR (pOf u d) (pOf d u) j k 0)), none, none, none, none, none, none, none, none, none, none] [(l, r3)] _
  have kl : (knownD j k).length ≤ 81 := by unfold knownD; rw [List.length_map]; exact cl
  refine s_seq (s_for (wk_list (ds := [(frD (chanceR (pOf u d) (pOf d u) j k 0)), frD (1 / 2), frD 0]) (ev_lst (ea_cons (ev_var rfl) (ea_cons (by rw [frD_half]; walk_at "ra") (ea_cons (by rw [frD_zero]; walk_at "ra") ea_nil))) (by simp)))
    (fun i ts1 m1 => ∃ o8 o10 o11, m1 = [(l, r3)] ∧ ts1 = [some (.lst (ns.map .int)), some (.ref l), some (.tup [.int u, .int d]), some (.lst [.int j, .int k]), some (.int n), some (.int j), some (.int k), some (.lst (knownD j k)), o8, some (frD (chanceR (pOf u d) (pOf d u) j k 0)), o10, o11, none, none, none, none, none, none, none, none]) ⟨none, none, none, rfl, rfl⟩ (fun _ _ _ _ => trivial) ?_ ?_)
  · rintro i dt ts1 m1 hi ⟨o8, o10, o11, rfl, rfl⟩
    have hq : ∃ q nq, dt = frD q ∧ Sz nq q ∧ nq ≤ 9000 := by
      have := List.mem_of_getElem? hi
      simp only [List.mem_cons, List.not_mem_nil, or_false] at this
      rcases this with rfl | rfl | rfl
      · exact ⟨_, _, rfl, sC, by decide⟩
      · exact ⟨_, _, rfl, sz_half, by decide⟩
      · exact ⟨_, _, rfl, sz_zero, by decide⟩
    obtain ⟨q, nq, rfl, sq, hnq⟩ := hq
    refine ⟨_, _, gt_nm, ?_⟩
    show ExS G.K E _ [some (.lst (ns.map .int)), some (.ref l), some (.tup [.int u, .int d]), some (.lst [.int j, .int k]), some (.int n), some (.int j), some (.int k), some (.lst (knownD j k)), o8, some (frD (chanceR (pOf u d) (pOf d u) j k 0)), some (frD q), o11, none, none, none, none, none, none, none, none] [(l, r3)] _
    refine s_if0 (t_neSame (d := .lst (pairsD (fitL j k q))) (n := 2) (e_fitting (by walk_at "ra") rj rk sq hnq) (EvD.is (ev_lc (wk_list (ev_var rfl)) (fun x => decide (coinC (fstD (kfst x), sndD (kfst x)) j k = q)) kfst (by omega) (fun x l' acc hx => ?_)) (congrArg D.lst (known_fit j k q))) (lay_pairs _) (by decide)) (s_next ⟨_, _, _, rfl, rfl⟩)
    obtain ⟨q2, hq2, rfl⟩ := List.mem_map.mp hx
    exact ⟨_, gt_two, et_test (e_eqF (p := coinC q2 j k) (ev_var rfl) (ev_var rfl)), fun _ => ev_var rfl⟩
  rintro ts1 m1 ⟨o8, o10, o11, rfl, rfl⟩
  refine s_seq (s_par (d1 := frD 1) (d2 := .lst (pairsD [])) (ea_cons (by rw [frD_one]; walk_at "ra") (ea_cons (ev_pairs0 rfl) ea_nil)) ?_)
  refine s_seq (s_for (wk_list (ds := knownD j k) (ev_var rfl)) (fun i ts1 m1 => ∃ o8 o11 b f o14, m1 = [(l, r3)] ∧ NearOk j k i b f ∧ ts1 = [some (.lst (ns.map .int)), some (.ref l), some (.tup [.int u, .int d]), some (.lst [.int j, .int k]), some (.int n), some (.int j), some (.int k), some (.lst (knownD j k)), o8, some (frD (chanceR (pOf u d) (pOf d u) j k 0)), o10, o11, some (frD b), some (.lst (pairsD f)), o14, none, none, none, none, none]) ⟨o8, o11, 1, [], none, rfl, near0 j k, rfl⟩ (fun _ _ _ _ => trivial) ?_ ?_)
  · rintro i dt ts1 m1 hi ⟨o8, o11, b, f, o14, rfl, hN, rfl⟩
    obtain ⟨q, hq, rfl⟩ := known_get hi
    have pm := List.mem_of_getElem? hq
    have il : i < coinsL.length := (List.getElem?_eq_some_iff.mp hq).1
    have hN2 := near_step hN hq rj rk
    have sc := sz_coinC pm rj rk
    have sp := sz_off sc
    have fl := hN.len
    refine ⟨_, _, gt_two, ?_⟩
    show ExS G.K E _ [some (.lst (ns.map .int)), some (.ref l), some (.tup [.int u, .int d]), some (.lst [.int j, .int k]), some (.int n), some (.int j), some (.int k), some (.lst (knownD j k)), some (pairD2 q), some (frD (chanceR (pOf u d) (pOf d u) j k 0)), o10, some (frD (coinC q j k)), some (frD b), some (.lst (pairsD f)), o14, none, none, none, none, none] [(l, r3)] _
    refine s_seq (s_asg (d := frD (offR (coinC q j k))) (ev_call (ea_cons (ev_var rfl) ea_nil) ⟨coinC q j k, 2300, rfl, sc, by decide, rfl, rfl⟩) ?_)
    generalize ha : offR (coinC q j k) = a at *
    have eS : nearS j k (b, f) q = ((if a < b then (a, []) else (b, f)).1, if a = (if a < b then (a, ([] : List (Int × Int))) else (b, f)).1 then (if a < b then (a, []) else (b, f)).2 ++ [q] else (if a < b then (a, []) else (b, f)).2) := by unfold nearS; simp only [ha]
    show ExS G.K E _ [some (.lst (ns.map .int)), some (.ref l), some (.tup [.int u, .int d]), some (.lst [.int j, .int k]), some (.int n), some (.int j), some (.int k), some (.lst (knownD j k)), some (pairD2 q), some (frD (chanceR (pOf u d) (pOf d u) j k 0)), o10, some (frD (coinC q j k)), some (frD b), some (.lst (pairsD f)), some (frD a), none, none, none, none, none] [(l, r3)] _
    have tail : ∀ (b2 : Rat) (f2 : List (Int × Int)), f2.length ≤ 81 → nearS j k (b, f) q = (b2, if a = b2 then f2 ++ [q] else f2) → ExS G.K E (tAsg (tOp (rCatL G.K) (tVar 13) (tOp rRep (tLst (tCons (tVar 8) tNil)) (tCB rInt1 (tCons (tOp (rEqD G.K) (tVar 14) (tVar 12)) tNil)))) (gName 13)) [some (.lst (ns.map .int)), some (.ref l), some (.tup [.int u, .int d]), some (.lst [.int j, .int k]), some (.int n), some (.int j), some (.int k), some (.lst (knownD j k)), some (pairD2 q), some (frD (chanceR (pOf u d) (pOf d u) j k 0)), o10, some (frD (coinC q j k)), some (frD b2), some (.lst (pairsD f2)), some (frD a), none, none, none, none, none] [(l, r3)]
        (fun o => match o with | .nx ts1 m1 => ∃ o8 o11 b f o14, m1 = [(l, r3)] ∧ NearOk j k (i + 1) b f ∧ ts1 = [some (.lst (ns.map .int)), some (.ref l), some (.tup [.int u, .int d]), some (.lst [.int j, .int k]), some (.int n), some (.int j), some (.int k), some (.lst (knownD j k)), o8, some (frD (chanceR (pOf u d) (pOf d u) j k 0)), o10, o11, some (frD b), some (.lst (pairsD f)), o14, none, none, none, none, none] | _ => False) := fun b2 f2 hf e => by
      rw [e] at hN2
      have hN2 : NearOk j k (i + 1) b2 (if a = b2 then f2 ++ [q] else f2) := hN2
      refine s_asg (d := .lst (pairsD (if a = b2 then f2 ++ [q] else f2))) (EvD.is (ev_catL (ev_var rfl) (ev_rep (k := if decide (a = b2) then 1 else 0) (ds := [pairD2 q]) (ev_lstM (EvL.p (ds := [pairD2 q]) (ea_cons (ev_var rfl) ea_nil) ⟨by simp, fun l' _ => ⟨l', rfl, rfl⟩⟩)) (fun l' => ev_cb (ea_cons (e_eqF (p := a) (q := b2) (ev_var rfl) (ev_var rfl)) ea_nil) cb_intB) (by split <;> decide) (by split <;> decide) (by simp)) ?_) ?_) ⟨_, _, b2, _, _, rfl, hN2, rfl⟩
      · rw [pairsD, List.length_map]
        by_cases c : a = b2
        · rw [decide_eq_true c]; simp; omega
        · rw [decide_eq_false c]; simp; omega
      · by_cases c : a = b2
        · rw [decide_eq_true c, if_pos c]
          show D.lst (pairsD f2 ++ [pairD2 q]) = _
          rw [show [pairD2 q] = pairsD [q] from rfl, pairs_app]
        · rw [decide_eq_false c, if_neg c]
          show D.lst (pairsD f2 ++ []) = _
          rw [List.append_nil]
    have imp : ∀ {t : TS} {ts2 : TSt} {m2 : Mem} {X : Oc → Prop} {Y : TSt → Mem → Prop}, ExS G.K E t ts2 m2 (fun o => match o with | .nx ts m => Y ts m | _ => False) → (∀ ts m, Y ts m → X (.nx ts m)) → ExS G.K E t ts2 m2 X := fun hh hx => ExS.imp hh fun o ho => by
      cases o with
      | nx ts m => exact hx ts m ho
      | _ => exact ho.elim
    refine s_seq (s_if (b := decide (a.num * (b.den : Int) < b.num * (a.den : Int))) (et_test (ev_opB0 (f := fun i j => decide (i < j)) (ev_opI (ev_ixT (ds := [.int a.num, .int a.den]) (ev_var rfl) ev_int rfl) (ev_ixT (ds := [.int b.num, .int b.den]) (ev_var rfl) ev_int rfl) (cw_nd sp hN.sz (by decide))) (ev_opI (ev_ixT (ds := [.int b.num, .int b.den]) (ev_var rfl) ev_int rfl) (ev_ixT (ds := [.int a.num, .int a.den]) (ev_var rfl) ev_int rfl) (cw_nd hN.sz sp (by decide))))) (fun c => ?_) (fun c => ?_))
    · have c : a < b := Rat.lt_iff a b |>.mpr (of_decide_eq_true c)
      rw [if_pos c] at eS
      refine s_par (d1 := frD a) (d2 := .lst (pairsD [])) (ea_cons (ev_var rfl) (ea_cons (ev_pairs0 rfl) ea_nil)) ?_
      exact imp (tail a [] (by decide) eS) fun _ _ h => h
    · have c : ¬ a < b := fun z => of_decide_eq_false c ((Rat.lt_iff a b).mp z)
      rw [if_neg c] at eS
      refine s_next ?_
      exact imp (tail b f (by omega) eS) fun _ _ h => h
  rintro ts1 m1 ⟨o8, o11, b0, f, o14, rfl, hN, rfl⟩
  have e := hN.eq
  rw [show (knownD j k).length = coinsL.length by unfold knownD; rw [List.length_map], List.take_length] at e
  have e2 : nearL j k = f := by unfold nearL; rw [e]
  subst e2
  refine s_seq (s_if0 (t_neSame (d := .lst (pairsD (nearL j k))) (n := 2) (e_nearest (by walk_at "ra") rj rk) (ev_var rfl) (lay_pairs _) (by decide)) (s_next ?_))
  refine s_seq (s_asgGP (EvD.p (d := .tup [.lst (pairsD (evL u d n.toNat 0)), coinD G u d]) (ev_tup (ea_cons (ev_pairs0 (evL_zero _ _ _)) (ea_cons (ev_coinD (by walk_at "ra") su sd) ea_nil)) (by simp)) ⟨_, _, gt_two, ?_⟩))
  refine s_seq (s_for (wk_rng2 (lo := 1) (n := n + 1) (by walk_at "ra") (by omega)) (fun i ts1 m1 => ∃ o10 o17, m1 = [(l, r3)] ∧ i ≤ n.toNat ∧ ts1 = [some (.lst (ns.map .int)), some (.ref l), some (.tup [.int u, .int d]), some (.lst [.int j, .int k]), some (.int n), some (.int j), some (.int k), some (.lst (knownD j k)), o8, some (frD (chanceR (pOf u d) (pOf d u) j k 0)), o10, o11, some (frD b0), some (.lst (pairsD (nearL j k))), o14, some (.lst (pairsD (evL u d n.toNat i))), some (coinD G u d), o17, none, none]) ⟨o10, none, rfl, by omega, rfl⟩ (fun _ _ _ _ => trivial) ?_ ?_)
  · rintro i dt ts1 m1 hi ⟨o10, o17, rfl, hl, rfl⟩
    obtain ⟨rfl, hlt⟩ := rngD_at hi
    have ll := evL_len u d n.toNat i
    have ll2 : n.toNat * i ≤ 12 * 12 := Nat.mul_le_mul (by omega) (by omega)
    refine ⟨_, _, gt_nm, ?_⟩
    show ExS G.K E _ [some (.lst (ns.map .int)), some (.ref l), some (.tup [.int u, .int d]), some (.lst [.int j, .int k]), some (.int n), some (.int j), some (.int k), some (.lst (knownD j k)), o8, some (frD (chanceR (pOf u d) (pOf d u) j k 0)), some (.int (1 + (i : Int))), o11, some (frD b0), some (.lst (pairsD (nearL j k))), o14, some (.lst (pairsD (evL u d n.toNat i))), some (coinD G u d), o17, none, none] [(l, r3)] _
    have comp := row_D (1 + (i : Int)) n (by omega) (fun p => decide (chanceR (pOf u d) (pOf d u) p.1 p.2 0 = 1 / 2))
    refine s_asg (d := .lst (pairsD (evL u d n.toNat (i + 1)))) (EvD.is (ev_catL (ev_var rfl) (EvD.is (ev_lc (wk_rng2 (lo := 1) (n := n + 1) (by walk_at "ra") (by omega)) (fun x => decide (chanceR (pOf u d) (pOf d u) (1 + (i : Int)) (intD x) 0 = 1 / 2)) (fun x => .tup [.int (1 + (i : Int)), x]) (by simp [rngD]; omega) (fun x l' acc hx => ?_)) (congrArg D.lst comp)) ?_) ?_) ⟨_, _, rfl, by omega, rfl⟩
    · obtain ⟨c, hc, rfl⟩ := List.mem_map.mp hx
      rw [List.mem_range] at hc
      exact ⟨_, gt_nm, et_test (e_eqF (p := chanceR (pOf u d) (pOf d u) (1 + (i : Int)) (1 + (c : Int)) 0) (q := 1 / 2) (e_chance (ea_cons (ev_var rfl) (ea_cons (ev_var rfl) (ea_cons (ev_var rfl) (ea_cons ev_int ea_nil)))) su sd ⟨by omega, by omega⟩ ⟨by omega, by omega⟩ (by omega) (by omega)) (by rw [frD_half]; walk_at "ra")), fun _ => ev_tup (ea_cons (ev_var rfl) (ea_cons (ev_var rfl) ea_nil)) (by simp)⟩
    · have h2 : (pairsD (((List.range n.toNat).map fun b : Nat => ((1 + (i : Int), 1 + (b : Int)) : Int × Int)).filter fun p => decide (chanceR (pOf u d) (pOf d u) p.1 p.2 0 = 1 / 2))).length ≤ n.toNat := by
        rw [pairsD, List.length_map]
        exact Nat.le_trans (List.length_filter_le _ _) (by simp)
      rw [pairsD, List.length_map]
      omega
    · rw [pairs_app, evL_succ]
  rintro ts1 m1 ⟨o10, o17, rfl, hl, rfl⟩
  have el : (rngD 1 (n + 1)).length = n.toNat := by simp [rngD]
  rw [el, evL_all]
  refine s_seq (s_if0 (t_neSame (d := .lst (pairsD (fairL u d n))) (n := 2) (e_fair (by walk_at "ra") su sd b1 (by omega)) (ev_var rfl) (lay_pairs _) (by decide)) (s_next ?_))
  refine s_seq (s_asgP (ev_opP (EvD.p (d := .lst badL5) (ev_lst (by unfold badL5; walk_at "ra") (by decide)) (ev_taken (r := r3) (k := 0) (by walk_at "ra") (by decide) (by decide) rfl hr3 fun y r4 h0 h9 hr4 => ?_))))
  obtain ⟨b, eb, ob, wb⟩ := bad5 h0 h9
  refine ⟨b, od_ixL eb, ?_⟩
  have fb := ob.1
  show ExS G.K E _ [some (.lst (ns.map .int)), some (.ref l), some (.tup [.int u, .int d]), some (.lst [.int j, .int k]), some (.int n), some (.int j), some (.int k), some (.lst (knownD j k)), o8, some (frD (chanceR (pOf u d) (pOf d u) j k 0)), o10, o11, some (frD b0), some (.lst (pairsD (nearL j k))), o14, some (.lst (pairsD (fairL u d n))), some (coinD G u d), o17, some b, none] [(l, r4)] _
  have wj := within_run rj
  have wk := within_run rk
  refine s_seq (s_if0 (et_or0 (t_toldN ob (ev_call (ds := [.lst [b, b, .int 1], .int 0]) (ea_cons (ev_lst (by walk_at "ra") (by simp)) (by walk_at "ra")) ⟨_, 0, badRunD b, rfl, .inl ⟨b, b, .int 1, rfl, rfl, fb, fb, frok1, .inl ⟨wb, rfl⟩⟩, rfl, rfl⟩) (ev_lst (by walk_at "ra") (by simp)))
    (t_toldN ob (ev_call (ds := [.lst [.int j, b], .int 1]) (ea_cons (ev_lst (by walk_at "ra") (by simp)) (by walk_at "ra")) ⟨_, 1, badRunD b, rfl, .inr (.inl ⟨.int j, b, rfl, rfl, rfl, fb, wj, wb, rfl⟩), rfl, rfl⟩) (ev_lst (by walk_at "ra") (by simp)))) (s_next ?_))
  refine s_seq (s_asg (d := .lst badF6) (ev_lst (ea_cons ev_non (ea_cons ev_int (ea_cons (by walk_at "ra") (ea_cons (by walk_at "ra") (ea_cons (ev_lst (by walk_at "ra") (by simp)) (ea_cons ev_str ea_nil)))))) (by decide)) ?_)
  show ExS G.K E _ [some (.lst (ns.map .int)), some (.ref l), some (.tup [.int u, .int d]), some (.lst [.int j, .int k]), some (.int n), some (.int j), some (.int k), some (.lst (knownD j k)), o8, some (frD (chanceR (pOf u d) (pOf d u) j k 0)), o10, o11, some (frD b0), some (.lst (pairsD (nearL j k))), o14, some (.lst (pairsD (fairL u d n))), some (coinD G u d), o17, some b, some (.lst badF6)] [(l, r4)] _
  refine s_seq (s_ifP (et_testP (ev_opP (ev_callP (ea_consP (ev_lstP (ea_consP (EvD.p (d := .int j) (ev_var rfl) (ea_consP (EvD.p (d := .int k) (ev_var rfl) (ea_consP (ev_opP (EvD.p (d := .lst badF6) (ev_var rfl) (ev_taken (many := 6) (r := r4) (k := 0) (ea_cons (ev_var rfl) (ea_cons (ev_cb (ea_cons (ev_var rfl) ea_nil) cb_lenL) ea_nil)) (by decide) (by decide) rfl hr4 fun y r5 y0 y9 hr5 => ?_))))))))))))))
  obtain ⟨t, et, ft, it⟩ := bad_f y0 y9
  refine ⟨t, od_ixL et, ea_nilP ⟨ea_consP (EvD.p (d := .int 0) ev_int (ea_nilP ⟨[.int j, .int k, t], 0, .str "chance", rfl, .inl ⟨.int j, .int k, t, rfl, rfl, rfl, rfl, ft, .inr ⟨wj, wk, it, rfl⟩⟩, ?_⟩)), by simp⟩⟩
  refine EvD.p ev_str ⟨_, od_neSame (n := 0) (lay_str 0 (by decide +kernel)) (by decide), false, rfl, ?_⟩
  rw [if_neg Bool.false_ne_true]
  refine s_next ?_
  have w31 : withinD (.int 31) 1 30 = false := rfl
  refine s_ret (d := .bl true) (ev_and1 (e_told ob (ev_call (ds := [.lst [b], .int 2]) (ea_cons (ev_lst (by walk_at "ra") (by simp)) (by walk_at "ra")) ⟨_, 2, badCountD b, rfl, .inr (.inr ⟨b, rfl, rfl, fb, runs30 wb, rfl⟩), rfl, rfl⟩) (ev_lst (by walk_at "ra") (by simp)))
    (e_told (odd_int 31) (ev_call (ds := [.lst [.int 31], .int 2]) (ea_cons (ev_lst (by walk_at "ra") (by simp)) (by walk_at "ra")) ⟨_, 2, badCountD (.int 31), rfl, .inr (.inr ⟨.int 31, rfl, rfl, rfl, w31, rfl⟩), rfl, rfl⟩) (ev_lst (by walk_at "ra") (by simp)))) (p _)
end RA
set_option Elab.async false
set_option linter.all false
set_option maxRecDepth 100000
set_option maxHeartbeats 4000000
/-! The defs' readings (printed by gen.py). -/
namespace RA
open PySem PySem.Spec PyProof.Rows L2 Evl
/-- chances: 0 coin, 1 j, 2 k, 3 state -/
def n_chances : List Str := ["coin", "j", "k", "state"]
def t_chances (G : Gam) (E : XK) : TS :=
  (tSeq (tDrop (tCall (SpD G.K (R_need_runs G)) [] E (tCons (tVar 1) (tCons (tVar 2) (tCons (tC (.int 40)) tNil)))))
    (tRet (tDc (iRng2 (tCons (tOp (rI0 fun i j => .int (i - j)) (tC (.int 1)) (tVar 2)) (tCons (tVar 1) tNil))) (gName 3) tYes (tVar 3) (tCall (SpD G.K (R_chance_by G)) [] E0 (tCons (tVar 0) (tCons (tVar 1) (tCons (tVar 2) (tCons (tVar 3) tNil))))) [3])))
/-- _law_refused: 0 _law_coin, 1 _law_j, 2 _law_k, 3 _law_state, 4 _law_told, 5 e -/
def tb0__law_refused_k02 (G : Gam) (E2 : XK) : TS :=
  (tDrop (tCall (SpD G.K (R_chance G)) [] E2 (tCons (tVar 0) (tCons (tVar 1) (tCons (tVar 2) (tCons (tVar 3) tNil))))))
def n__law_refused_k02 : List Str := ["_law_coin", "_law_j", "_law_k", "_law_state", "_law_told", "e"]
def t__law_refused_k02 (G : Gam) (E : XK) : TS :=
  (tSeq (tAsg (tC .non) (gName 4))
    (tSeq (tTry G.K (fun cls d _ H => E cls d H) [((Value.ref G.cBadRun), (some 5), fun a cls d => (tAsg (tLst (tCons (tC (.str "run")) (tCons (tXf a cls d G.cBadRun "value" (tVar 5)) tNil))) (gName 4))), ((Value.ref G.cBadState), none, fun a cls d => (tAsg (tC (.str "state")) (gName 4)))] (fun W => tb0__law_refused_k02 G (EW 6 W)))
    (tRet (tVar 4))))
/-- law: 0 _law_script, 1 _law_row, 2 _law_d, 3 _law_runs_here, 4 _law_coin, 5 _law_shares_here, 6 _law_j, 7 _law_k, 8 _law_known, 9 _law_told, 10 _law_state, 11 _law_up, 12 _law_down, 13 _law_due, 14 _law_bad -/
def n_law_k02 : List Str := ["_law_script", "_law_row", "_law_d", "_law_runs_here", "_law_coin", "_law_shares_here", "_law_j", "_law_k", "_law_known", "_law_told", "_law_state", "_law_up", "_law_down", "_law_due", "_law_bad"]
def t_law_k02 (G : Gam) (E : XK) : TS :=
  (tSeq (tAsg (tLst (tCons (tVar 0) (tCons (tC (.int 0)) (tCons (tC (.int 222)) (tCons (tC (.int 0)) tNil))))) (gName 1))
    (tSeq (tPar 2 3 (tCons (tCall (SpD G.K (R__law_drawn G)) [] E (tCons (tVar 1) tNil)) (tCons (tCall (SpD G.K (R__law_runs G)) [] E (tCons (tVar 1) (tCons (tC (.int 40)) tNil))) tNil)))
    (tSeq (tPar 4 5 (tCons (tMake G.cCoin (SpD G.K (R_Coin_init G)) [] E (tCons (tOp (rIxT G.K) (tVar 2) (tC (.int 0))) (tCons (tOp (rIxT G.K) (tVar 2) (tC (.int 1))) tNil))) (tCons (tCall (SpD G.K (R__law_shares G)) [] E (tCons (tVar 2) tNil)) tNil)))
    (tSeq (tAsg (tVar 3) (gLst G.K 2 (gCons (gName 6) (gCons (gName 7) gNil))))
    (tSeq (tAsg (tCall (SpD G.K (R_chances G)) [] E (tCons (tVar 4) (tCons (tVar 6) (tCons (tVar 7) tNil)))) (gName 8))
    (tSeq (tIfS (tTest (tOp (rNeD G.K) (tCB rListD (tCons (tVar 8) tNil)) (tLstRg (tRg2 (tOp (rI0 fun i j => .int (i - j)) (tC (.int 1)) (tVar 7)) (tVar 6))))) (tRet (tC (.bl false))) tNext)
    (tSeq (tAsg (tCB (rDictP G.K) (tCons (tOp (rCatL G.K) (tLst (tCons (tTup (tCons (tC (.int 100)) (tCons (tTup (tCons (tC (.int 1)) (tCons (tC (.int 1)) tNil))) tNil))) (tCons (tTup (tCons (tOp (rI0 fun i j => .int (i - j)) (tC (.int 0)) (tC (.int 100))) (tCons (tTup (tCons (tC (.int 0)) (tCons (tC (.int 1)) tNil))) tNil))) tNil))) (LiI.tListItems (tVar 8))) tNil)) (gName 9))
    (tSeq (tLock (tFor (iKeys (tVar 8)) (gName 10) (tSeq (tAsg (tCall (SpD G.K (R__law_next G)) [] E (tCons (tVar 6) (tCons (tVar 7) (tCons (tVar 10) tNil)))) (gLst G.K 2 (gCons (gName 11) (gCons (gName 12) gNil))))
    (tSeq (tAsg (tCall (SpD G.K (R__law_sum G)) [] E (tCons (tCall (SpD G.K (R__law_times G)) [] E (tCons (tOp (rIxL G.K) (tVar 5) (tC (.int 0))) (tCons (tDGet (tVar 9) (tVar 11)) tNil))) (tCons (tCall (SpD G.K (R__law_times G)) [] E (tCons (tOp (rIxL G.K) (tVar 5) (tC (.int 1))) (tCons (tDGet (tVar 9) (tVar 12)) tNil))) tNil))) (gName 13))
    (tIfS (tOr (tTest (tOp (rNeD G.K) (tDGet (tVar 8) (tVar 10)) (tVar 13))) (tTest (tOp (rNeD G.K) (tCall (SpD G.K (R_chance G)) [] E (tCons (tVar 4) (tCons (tVar 6) (tCons (tVar 7) (tCons (tVar 10) tNil))))) (tVar 13)))) (tRet (tC (.bl false))) tNext)))))
    (tSeq (tAsg (tOp (rIxL G.K) (tLst (tCons (tC (.int 0)) (tCons (tC (.int 41)) (tCons (tUn (rU fun i => .int (-i)) (tC (.int 1))) (tCons (tC .non) (tCons (tC (.bl true)) (tCons (tC (.str "1")) tNil))))))) (tCall (SpD G.K (R__law_taken G)) [] E (tCons (tVar 1) (tCons (tC (.int 6)) tNil)))) (gName 14))
    (tSeq (tIfS (tOr (tTest (tOp (rNeD G.K) (tCall (SpD G.K (R__law_refused_k02 G)) [] E (tCons (tVar 4) (tCons (tVar 14) (tCons (tVar 14) (tCons (tC (.int 99)) tNil))))) (tLst (tCons (tC (.str "run")) (tCons (tVar 14) tNil))))) (tTest (tOp (rNeD G.K) (tCall (SpD G.K (R__law_refused_k02 G)) [] E (tCons (tVar 4) (tCons (tVar 6) (tCons (tVar 14) (tCons (tC (.int 99)) tNil))))) (tLst (tCons (tC (.str "run")) (tCons (tVar 14) tNil)))))) (tRet (tC (.bl false))) tNext)
    (tSeq (tAsg (tOp (rIxL G.K) (tLst (tCons (tVar 6) (tCons (tOp (rI0 fun i j => .int (i - j)) (tC (.int 0)) (tVar 7)) (tCons (tC .non) (tCons (tC (.bl true)) (tCons (tC (.str "0")) tNil)))))) (tCall (SpD G.K (R__law_taken G)) [] E (tCons (tVar 1) (tCons (tC (.int 5)) tNil)))) (gName 14))
    (tRet (tOp (rEqD G.K) (tCall (SpD G.K (R__law_refused_k02 G)) [] E (tCons (tVar 4) (tCons (tVar 6) (tCons (tVar 7) (tCons (tVar 14) tNil))))) (tC (.str "state")))))))))))))))
end RA
set_option Elab.async false
set_option linter.all false
set_option maxRecDepth 100000
set_option maxHeartbeats 1000000
namespace RA
open PySem PySem.Spec PyProof.Rows L2 Evl
/-! the walk over a reading -/
local macro_rules | `(tactic| walk_at "ra1") => `(tactic| first
  | exact ev_int
  | exact ev_bl
  | exact ev_non
  | exact ev_str
  | exact ev_ty
  | exact ev_ref
  | (refine ev_var ?_; rfl)
  | exact ea_nil
  | apply ea_cons
  | apply ev_opI0
  | apply ev_opB0
  | apply ev_opI
  | refine ev_neg ?_
  | apply ev_ixT
  | (show atI _ _ = some _; rfl)
  | refine ev_tup ?_ (by first | decide | simp)
  | apply ev_cb
  | apply ev_call
  | refine et_test ?_
  | refine et_B ?_
  | refine et_not ?_
  | exact et_yes)
local macro_rules | `(tactic| walk_at "ra") => `(tactic| repeat' (walk_at "ra1"))
variable {G : Gam} {ds : List D} {ts : TSt} {m : Mem} {P : Oc → Prop} {E : XK} {tl : TA}
def rgKv (lo : Int) (f : Int → D) (n : Nat) : List (Key × D) := (List.range n).map fun i : Nat => (.inl (lo + (i : Int)), f (lo + (i : Int)))
theorem rgKv_succ {lo : Int} {f : Int → D} {n : Nat} : rgKv lo f (n + 1) = rgKv lo f n ++ [(.inl (lo + (n : Int)), f (lo + (n : Int)))] := by
  unfold rgKv; rw [List.range_succ, List.map_append]; rfl
theorem valD_rg {lo : Int} {f : Int → D} (z : Int) : ∀ n : Nat, valD (rgKv lo f n) (.inl z) = if lo ≤ z ∧ z < lo + n then some (f z) else none
  | 0 => by rw [if_neg (by omega)]; rfl
  | n + 1 => by
    have h0 : valD (rgKv lo f n) (.inl (lo + (n : Int))) = none := by rw [valD_rg _ n, if_neg (by omega)]
    rw [rgKv_succ, valD_snoc _ _ _ _ h0, valD_rg z n]
    by_cases e : z = lo + n
    · subst e; rw [if_pos rfl, if_pos (by omega)]
    · rw [if_neg (by simp only [Sum.inl.injEq]; exact e)]
      by_cases c : lo ≤ z ∧ z < lo + n
      · rw [if_pos c, if_pos (by omega)]
      · rw [if_neg c, if_neg (by omega)]
theorem chancesKv_rg {u d j k : Int} : chancesKv u d j k = rgKv (1 - k) (fun s => frD (chanceR (pOf u d) (pOf d u) j k s)) (j + k - 1).toNat := rfl
theorem p_chances (h : R_chances G ds m P) : ExS G.K E (t_chances G E) (startT n_chances ds) m (Fin P) := by
  obtain ⟨u, d, j, k, rfl, hu, hd, fj, fk, h1, h2, h3⟩ := h
  show ExS G.K E (t_chances G E) [some (coinD G u d), some j, some k, none] m (Fin P)
  refine s_seq (s_dropX (ev_callX (EvL.p (ds := [j, k, .int 40]) (by walk_at "ra") ⟨j, k, 40, rfl, fj, fk, ?_⟩)))
  cases cj : withinD j 1 40 with
  | false =>
    rw [runOc_no cj]
    exact h3 cj
  | true =>
    rw [runOc_ok cj]
    cases ck : withinD k 1 40 with
    | false =>
      rw [runOc_no ck]
      exact h2 cj ck
    | true =>
      rw [runOc_ok ck]
      obtain ⟨ej, j1, j2⟩ := within_int cj
      obtain ⟨ek, k1, k2⟩ := within_int ck
      have h1 := h1 cj ck
      rw [ej, ek]
      generalize intD j = J at *
      generalize intD k = K at *
      show ExS G.K E _ [some (coinD G u d), some (.int J), some (.int K), none] m (Fin P)
      have hlen : (rngD (1 - K) J).length = (J - (1 - K)).toNat := by simp [rngD]
      refine s_retP (ev_dcM (wk_rng2 (lo := 1 - K) (n := J) (by walk_at "ra") (by omega)) (fun i acc m1 => m1 = m ∧ acc = rgKv (1 - K) (fun s => frD (chanceR (pOf u d) (pOf d u) J K s)) i)
        ⟨rfl, rfl⟩ (by rw [hlen]; omega) (fun _ _ _ _ _ _ => trivial) (fun i acc m1 e => by rw [e.2]; simp [rgKv]) ?_ ?_)
      · rintro i dt acc m1 l hi ⟨rfl, rfl⟩ hl
        obtain ⟨rfl, hlt⟩ := rngD_at hi
        refine ⟨_, gt_nm, ?_⟩
        refine et_yes.p ?_
        show ∃ k, EvP G.K _ [some (coinD G u d), some (.int J), some (.int K), some (.int (1 - K + (i : Int)))] _ _
        refine ⟨.inl (1 - K + (i : Int)), (ev_var rfl : EvD _ _ _ _ (.int (1 - K + (i : Int)))).p ⟨rfl, ?_⟩⟩
        refine (ev_call (d := frD (chanceR (pOf u d) (pOf d u) J K (1 - K + (i : Int)))) (by walk_at "ra") ⟨u, d, J, K, 1 - K + (i : Int), rfl, hu, hd, ⟨j1, j2⟩, ⟨k1, k2⟩, by omega, by omega, rfl, rfl⟩ : EvD _ _ _ _ _).p ⟨m1, rfl, rfl, ?_⟩
        rw [rgKv_succ]
        refine putKD_new _ ?_
        rw [valD_rg, if_neg (by omega)]
      · rintro acc m1 l ⟨rfl, rfl⟩ hl
        rw [hlen]
        have e : (J - (1 - K)).toNat = (J + K - 1).toNat := by omega
        rw [e]
        exact h1 l hl
theorem p__law_refused_k02 (X : XRun G) (h : R__law_refused_k02 G ds m P) : ExS G.K E (t__law_refused_k02 G E) (startT n__law_refused_k02 ds) m (Fin P) := by
  obtain ⟨u, d, j, k, s, rfl, hu, hd, fj, fk, fs, p⟩ := h
  show ExS G.K E (t__law_refused_k02 G E) [some (coinD G u d), some j, some k, some s, none, none] m (Fin P)
  refine s_seq (s_asg (d := .non) (by walk_at "ra") ?_)
  show ExS G.K E _ [some (coinD G u d), some j, some k, some s, some .non, none] m (Fin P)
  refine s_seq (s_tryE (tb := tb0__law_refused_k02 G) (fun _ _ _ _ h => h) fun E' => s_dropX (ev_callX (EvL.p (ds := [coinD G u d, j, k, s]) (by walk_at "ra") ⟨u, d, j, k, s, rfl, hu, hd, fj, fk, fs, ?_⟩)))
  cases cj : withinD j 1 40 with
  | false =>
    rw [runTold_no cj] at p
    rw [runOc_no cj]
    exact catch_val X.rr (fun _ => rfl) (fun _ _ => rfl) (s_ret (ev_var rfl) p)
  | true =>
    rw [runTold_ok cj] at p
    rw [runOc_ok cj]
    cases ck : withinD k 1 40 with
    | false =>
      rw [runTold_no ck] at p
      rw [runOc_no ck]
      exact catch_val X.rr (fun _ => rfl) (fun _ _ => rfl) (s_ret (ev_var rfl) p)
    | true =>
      rw [runTold_ok ck] at p
      rw [runOc_ok ck]
      cases cs : withinD s (1 - intD k) (intD j - 1) with
      | false =>
        rw [stateTold_no cs] at p
        rw [stateOc_no cs]
        exact catch_skip X.sr (catch_con X.ss (fun _ => .str _) (s_ret (ev_var rfl) p))
      | true =>
        rw [stateTold_ok cs] at p
        rw [stateOc_ok cs]
        exact s_ret (d := .non) (by walk_at "ra") p
theorem valD_merge_off {k : Key} : ∀ {more acc : List (Key × D)}, valD more k = none → valD (mergeD acc more) k = valD acc k
  | [], _, _ => rfl
  | p :: r, acc, h => by
    have e : ¬ p.1 = k := fun z => by rw [valD_pos z] at h; cases h
    rw [valD_neg e] at h
    show valD (mergeD (putKD acc p.1 p.2) r) k = _
    rw [valD_merge_off h, valD_put, if_neg (fun z => e z.symm)]
theorem valD_merge_rg {lo : Int} {f : Int → D} {acc : List (Key × D)} {z : Int} : ∀ n : Nat, lo ≤ z → z < lo + n → valD (mergeD acc (rgKv lo f n)) (.inl z) = some (f z)
  | 0, _, _ => by omega
  | n + 1, h0, h1 => by
    rw [rgKv_succ]
    unfold mergeD
    rw [List.foldl_append]
    show valD (putKD (mergeD acc (rgKv lo f n)) _ _) _ = _
    rw [valD_put]
    by_cases e : z = lo + n
    · subst e; rw [if_pos rfl]
    · rw [if_neg (by simp only [Sum.inl.injEq]; exact e)]
      exact valD_merge_rg n h0 (by omega)
theorem pyDs_ints : ∀ l : List Int, pyDs (l.map D.int) = some (l.map PyData.int)
  | [] => rfl
  | a :: l => by
    have ih := pyDs_ints l
    simp [pyDs, pyD, ih]
theorem eqv_ints : ∀ l : List Int, PyData.eqvAll (l.map PyData.int) (l.map PyData.int) = true
  | [] => by simp [PyData.eqvAll]
  | a :: l => by
    have ih := eqv_ints l
    simp [PyData.eqvAll, PyData.eqv, ih]
theorem lay_ints : ∀ l : List Int, PyData.canLayAll0 (l.map PyData.int) = true ∧ PyData.depthAll (l.map PyData.int) = 0
  | [] => ⟨rfl, rfl⟩
  | a :: l => by
    obtain ⟨h1, h2⟩ := lay_ints l
    refine ⟨?_, ?_⟩
    · show (true && PyData.canLayAll0 (l.map PyData.int)) = true
      rw [h1]; rfl
    · show max 0 (PyData.depthAll (l.map PyData.int)) = 0
      rw [h2]; rfl
theorem shaped_ints (l : List Int) : SeqAt.shaped (.list (l.map PyData.int)) = true := by
  obtain ⟨h1, h2⟩ := lay_ints l
  unfold SeqAt.shaped
  rw [Bool.and_eq_true]
  refine ⟨h1, decide_eq_true ?_⟩
  show PyData.depthAll (l.map PyData.int) + 1 ≤ 64
  omega
theorem t_neL0 {ta tb : TE} {l : List Int} (ha : EvD G.K ta ts m (.lst (l.map .int))) (hb : EvD G.K tb ts m (.lst (l.map .int))) : EvT G.K (tTest (tOp (rNeD G.K) ta tb)) ts m false := by
  have e : pyD (.lst (l.map .int)) = some (.list (l.map PyData.int)) := by simp [pyD, pyDs_ints]
  refine EvT.is (et_test (ev_neD ha hb e e (shaped_ints l) (shaped_ints l))) ?_
  simp [PyData.eqv, eqv_ints]
def rgL (lo hi : Int) : List Int := (List.range (hi - lo).toNat).map fun i : Nat => lo + (i : Int)
theorem rgL_D (lo hi : Int) : (rgL lo hi).map D.int = rngD lo hi := by unfold rgL rngD; rw [List.map_map]; rfl
theorem keys_rg {lo hi : Int} {f : Int → D} {n : Nat} (h : n = (hi - lo).toNat) : (rgKv lo f n).map (fun p => kD p.1) = (rgL lo hi).map D.int := by
  subst h; unfold rgKv rgL; rw [List.map_map, List.map_map]; rfl
theorem p_law_k02 (h : R_law G ds m P) : ExS G.K E (t_law_k02 G E) (startT n_law_k02 ds) m (Fin P) := by
  obtain ⟨ns, rfl, rfl, hn, p⟩ := h
  show ExS G.K E (t_law_k02 G E) [some (.lst (ns.map .int)), none, none, none, none, none, none, none, none, none, none, none, none, none, none] [] (Fin P)
  refine s_seq (s_asgP (ev_lstM (EvL.p (ds := [.lst (ns.map .int), .int 0, .int 222, .int 0]) (by walk_at "ra") ⟨by simp, fun l _ => ?_⟩)))
  show ExS G.K E _ [some (.lst (ns.map .int)), some (.ref l), none, none, none, none, none, none, none, none, none, none, none, none, none] [(l, rowD ns 0 222 0)] (Fin P)
  refine s_seq (s_parP (ea_consP (ev_callP (EvL.p (ds := [.ref l]) (by walk_at "ra") ⟨l, rfl, 0, _, rfl, row0 hn (by decide), fun u d r1 hab hr1 => ?_⟩))))
  refine ea_consP (ev_callP (EvL.p (ds := [.ref l, .int 40]) (by walk_at "ra") ⟨l, 40, rfl, by decide, by decide, 0, r1, rfl, hr1, fun j k r2 j1 j2 k1 k2 hr2 => ?_⟩))
  refine ea_nilP ⟨_, _, rfl, ?_⟩
  obtain ⟨su, sd⟩ := drawn_share hab
  have rj : Run j := ⟨j1, j2⟩
  have rk : Run k := ⟨k1, k2⟩
  have ps := pOf_sum su sd
  have zp := sz_pOf su sd
  have zq := sz_pOf sd su
  show ExS G.K E _ [some (.lst (ns.map .int)), some (.ref l), some (.tup [.int u, .int d]), some (.lst [.int j, .int k]), none, none, none, none, none, none, none, none, none, none, none] [(l, r2)] _
  refine s_seq (s_par (d1 := coinD G u d) (d2 := .lst [frD (pOf u d), frD (pOf d u)]) (ea_cons (ev_coinD (by walk_at "ra") su sd) (ea_cons (e_shares (by walk_at "ra") su sd) ea_nil)) ?_)
  show ExS G.K E _ [some (.lst (ns.map .int)), some (.ref l), some (.tup [.int u, .int d]), some (.lst [.int j, .int k]), some (coinD G u d), some (.lst [frD (pOf u d), frD (pOf d u)]), none, none, none, none, none, none, none, none, none] [(l, r2)] _
  refine s_seq (s_asgGP (EvD.p (d := .lst [.int j, .int k]) (by walk_at "ra") ⟨_, _, gl_two, ?_⟩))
  show ExS G.K E _ [some (.lst (ns.map .int)), some (.ref l), some (.tup [.int u, .int d]), some (.lst [.int j, .int k]), some (coinD G u d), some (.lst [frD (pOf u d), frD (pOf d u)]), some (.int j), some (.int k), none, none, none, none, none, none, none] [(l, r2)] _
  let f : Int → Rat := chanceR (pOf u d) (pOf d u) j k
  refine s_seq (s_asgP (ev_callP (EvL.p (ds := [coinD G u d, .int j, .int k]) (by walk_at "ra") ⟨u, d, .int j, .int k, rfl, su, sd, rfl, rfl, fun _ _ x hx => ?_, fun _ z => (by rw [within_run rk] at z; cases z), fun z => (by rw [within_run rj] at z; cases z)⟩)))
  show ExS G.K E _ [some (.lst (ns.map .int)), some (.ref l), some (.tup [.int u, .int d]), some (.lst [.int j, .int k]), some (coinD G u d), some (.lst [frD (pOf u d), frD (pOf d u)]), some (.int j), some (.int k), some (.ref x), none, none, none, none, none, none] [(x, .dic (chancesKv u d j k)), (l, r2)] _
  have hn1 : (j + k - 1).toNat = (j - (1 - k)).toNat := by omega
  have hkv : chancesKv u d j k = rgKv (1 - k) (fun s => frD (f s)) (j + k - 1).toNat := rfl
  have hkeys : (chancesKv u d j k).map (fun p => kD p.1) = (rgL (1 - k) j).map D.int := by rw [hkv]; exact keys_rg hn1
  refine s_seq (s_if0 (t_neL0 (l := rgL (1 - k) j) (by rw [← hkeys]; exact ev_cb (by walk_at "ra") (cb_listD (k := 0) rfl)) (by rw [rgL_D]; exact ev_listRg2 (by walk_at "ra") (by walk_at "ra") (by omega))) (s_next ?_))
  have lk0 : ∀ s : Int, 1 - k ≤ s → s < j → valD (chancesKv u d j k) (.inl s) = some (frD (f s)) := fun s h0 h1 => by
    rw [hkv, valD_rg, if_pos (by omega)]
  have hkl : (chancesKv u d j k).length ≤ 79 := by rw [hkv]; simp [rgKv]; omega
  have hil : (itemsD (chancesKv u d j k)).length ≤ 79 := by unfold itemsD; rw [List.length_map]; exact hkl
  let kd : List (Key × D) := (.inl 100, frD 1) :: (.inl (0 - 100), frD 0) :: chancesKv u d j k
  have ek : D.lst (itemsD kd) = .lst ([.tup [.int 100, .tup [.int 1, .int 1]], .tup [.int (0 - 100), .tup [.int 0, .int 1]]] ++ itemsD (chancesKv u d j k)) := rfl
  refine s_seq (s_asgP (ev_dictP (kvs := kd) (ea_cons (by rw [ek]; exact ev_catL (ev_lst (by walk_at "ra") (by simp)) (ev_listItems (k := 0) (ev_var rfl) rfl) (by simp only [List.length_cons, List.length_nil]; omega)) ea_nil) fun y hy => ?_))
  have ltold : ∀ s : Int, 1 - k ≤ s → s < j → valD (mergeD [] kd) (.inl s) = some (frD (f s)) := fun s h0 h1 => by
    show valD (mergeD (putKD (putKD [] (.inl 100) (frD 1)) (.inl (0 - 100)) (frD 0)) (chancesKv u d j k)) (.inl s) = _
    rw [hkv]
    exact valD_merge_rg (f := fun s => frD (f s)) _ h0 (by omega)
  have lup : valD (mergeD [] kd) (.inl 100) = some (frD 1) := by
    show valD (mergeD (putKD (putKD [] (.inl 100) (frD 1)) (.inl (0 - 100)) (frD 0)) (chancesKv u d j k)) (.inl 100) = _
    rw [valD_merge_off (by rw [hkv, valD_rg, if_neg (by omega)]), valD_put, if_neg (by simp), valD_put, if_pos rfl]
  have ldn : valD (mergeD [] kd) (.inl (-100)) = some (frD 0) := by
    show valD (mergeD (putKD (putKD [] (.inl 100) (frD 1)) (.inl (0 - 100)) (frD 0)) (chancesKv u d j k)) (.inl (-100)) = _
    rw [valD_merge_off (by rw [hkv, valD_rg, if_neg (by omega)]), valD_put, if_pos (by decide)]
  generalize mergeD [] kd = T at *
  generalize hKV : chancesKv u d j k = kv at *
  show ExS G.K E _ [some (.lst (ns.map .int)), some (.ref l), some (.tup [.int u, .int d]), some (.lst [.int j, .int k]), some (coinD G u d), some (.lst [frD (pOf u d), frD (pOf d u)]), some (.int j), some (.int k), some (.ref x), some (.ref y), none, none, none, none, none] [(y, .dic T), (x, .dic kv), (l, r2)] _
  refine s_seq (s_lock (k := 1) (a := x) (kvs := kv) rfl fun o ws => s_for (wk_keys (k := 1) (a := x) (o := o) (ws := ws) (kvs := kv) (ev_var rfl) rfl)
    (fun i ts m => ∃ o1 o2 o3 o4, m = [(y, .dic T), (x, .lk o ws kv), (l, r2)] ∧ ts = [some (.lst (ns.map .int)), some (.ref l), some (.tup [.int u, .int d]), some (.lst [.int j, .int k]), some (coinD G u d), some (.lst [frD (pOf u d), frD (pOf d u)]), some (.int j), some (.int k), some (.ref x), some (.ref y), o1, o2, o3, o4, none])
    ⟨none, none, none, none, rfl, rfl⟩ (fun i ts m ⟨_, _, _, _, e, _⟩ => ⟨1, by rw [e]; rfl⟩) ?_ ?_)
  · rintro i dt ts1 m1 hi ⟨o1, o2, o3, o4, rfl, rfl⟩
    rw [hkeys, rgL_D] at hi
    obtain ⟨rfl, hlt⟩ := rngD_at hi
    refine ⟨_, _, gt_nm, ?_⟩
    have hs1 : 1 - k ≤ 1 - k + (i : Int) := by omega
    generalize hS : 1 - k + (i : Int) = s at *
    show ExS G.K E _ [some (.lst (ns.map .int)), some (.ref l), some (.tup [.int u, .int d]), some (.lst [.int j, .int k]), some (coinD G u d), some (.lst [frD (pOf u d), frD (pOf d u)]), some (.int j), some (.int k), some (.ref x), some (.ref y), some (.int s), o2, o3, o4, none] [(y, .dic T), (x, .lk o ws kv), (l, r2)] _
    refine s_seq (s_asgGP ((ev_call (d := .lst [.int (upS j s), .int (downS k s)]) (by walk_at "ra") ⟨j, k, s, rfl, rfl, rfl⟩ : EvD _ _ _ _ _).p ⟨_, _, gl_two, ?_⟩))
    have ru : 1 ≤ rawU s ∧ rawU s ≤ j := by unfold rawU; split <;> omega
    have rd : rawD s ≤ -1 ∧ -k ≤ rawD s := by unfold rawD; split <;> omega
    have lu : valD T (.inl (upS j s)) = some (frD (endU j (rawU s) 1 f)) := by
      rw [upS_raw]; unfold endU
      split
      · exact lup
      · exact ltold _ (by omega) (by omega)
    have ld : valD T (.inl (downS k s)) = some (frD (endU (-k) (rawD s) 0 f)) := by
      rw [downS_raw]; unfold endU
      split
      · exact ldn
      · exact ltold _ (by omega) (by omega)
    have key : f s = pOf u d * endU j (rawU s) 1 f + pOf d u * endU (-k) (rawD s) 0 f := chance_next ps j1 k1 hs1 (by omega) (ends_ne su sd rj rk)
    have su1 : Sz 2300 (endU j (rawU s) 1 f) := by
      unfold endU
      split
      · exact sz_one.mono (by omega)
      · exact sz_chance su sd rj rk (by omega) (by omega)
    have sd1 : Sz 2300 (endU (-k) (rawD s) 0 f) := by
      unfold endU
      split
      · exact sz_zero.mono (by omega)
      · exact sz_chance su sd rj rk (by omega) (by omega)
    generalize endU j (rawU s) 1 f = A at *
    generalize endU (-k) (rawD s) 0 f = B at *
    show ExS G.K E _ [some (.lst (ns.map .int)), some (.ref l), some (.tup [.int u, .int d]), some (.lst [.int j, .int k]), some (coinD G u d), some (.lst [frD (pOf u d), frD (pOf d u)]), some (.int j), some (.int k), some (.ref x), some (.ref y), some (.int s), some (.int (upS j s)), some (.int (downS k s)), o4, none] [(y, .dic T), (x, .lk o ws kv), (l, r2)] _
    refine s_seq (s_asg (d := frD (pOf u d * A + pOf d u * B)) (e_lsum (ea_cons (e_ltimes (p := pOf u d) (q := A) (ea_cons (ev_ixL (ev_var rfl) ev_int rfl) (ea_cons (ev_dget (i := 0) (k := .inl (upS j s)) (ev_var rfl) (ev_var rfl) rfl lu) ea_nil)) zp su1)
      (ea_cons (e_ltimes (p := pOf d u) (q := B) (ea_cons (ev_ixL (ev_var rfl) ev_int rfl) (ea_cons (ev_dget (i := 0) (k := .inl (downS k s)) (ev_var rfl) (ev_var rfl) rfl ld) ea_nil)) zq sd1) ea_nil)) (zp.mul su1) (zq.mul sd1)) ?_)
    show ExS G.K E _ [some (.lst (ns.map .int)), some (.ref l), some (.tup [.int u, .int d]), some (.lst [.int j, .int k]), some (coinD G u d), some (.lst [frD (pOf u d), frD (pOf d u)]), some (.int j), some (.int k), some (.ref x), some (.ref y), some (.int s), some (.int (upS j s)), some (.int (downS k s)), some (frD (pOf u d * A + pOf d u * B)), none] [(y, .dic T), (x, .lk o ws kv), (l, r2)] _
    refine s_if0 (et_or0 (t_neF0 (p := f s) (ev_dgetL (i := 1) (k := .inl s) (ev_var rfl) (ev_var rfl) rfl (lk0 s hs1 (by omega))) (ev_var rfl) key)
      (t_neF0 (p := f s) (e_chance (by walk_at "ra") su sd rj rk hs1 (by omega)) (ev_var rfl) key)) (s_next ?_)
    exact ⟨_, _, _, _, rfl, rfl⟩
  rintro ts1 m1 ⟨o1, o2, o3, o4, rfl, rfl⟩
  refine ⟨1, rfl, ?_⟩
  show ExS G.K E _ [some (.lst (ns.map .int)), some (.ref l), some (.tup [.int u, .int d]), some (.lst [.int j, .int k]), some (coinD G u d), some (.lst [frD (pOf u d), frD (pOf d u)]), some (.int j), some (.int k), some (.ref x), some (.ref y), o1, o2, o3, o4, none] [(y, .dic T), (x, .dic kv), (l, r2)] _
  refine s_seq (s_asgP (ev_opP (EvD.p (d := .lst badL6) (ev_lst (by unfold badL6; walk_at "ra") (by decide)) (ev_taken (r := r2) (k := 2) (by walk_at "ra") (by decide) (by decide) rfl hr2 fun z r3 h0 h9 hr3 => ?_))))
  obtain ⟨b, eb, ob, wb⟩ := bad6 h0 h9
  refine ⟨b, od_ixL eb, ?_⟩
  show ExS G.K E _ [some (.lst (ns.map .int)), some (.ref l), some (.tup [.int u, .int d]), some (.lst [.int j, .int k]), some (coinD G u d), some (.lst [frD (pOf u d), frD (pOf d u)]), some (.int j), some (.int k), some (.ref x), some (.ref y), o1, o2, o3, o4, some b] [(y, .dic T), (x, .dic kv), (l, r3)] _
  have fb := ob.1
  refine s_seq (s_if0 (et_or0 (t_toldN ob (ev_call (ds := [coinD G u d, b, b, .int 99]) (by walk_at "ra") ⟨u, d, b, b, .int 99, rfl, su, sd, fb, fb, rfl, ?_⟩) (ev_lst (by walk_at "ra") (by simp)))
    (t_toldN ob (ev_call (ds := [coinD G u d, .int j, b, .int 99]) (by walk_at "ra") ⟨u, d, .int j, b, .int 99, rfl, su, sd, rfl, fb, rfl, ?_⟩) (ev_lst (by walk_at "ra") (by simp)))) (s_next ?_))
  · rw [runTold_no wb]; exact ⟨rfl, rfl⟩
  · rw [runTold_ok (within_run rj), runTold_no wb]; exact ⟨rfl, rfl⟩
  refine s_seq (s_asgP (ev_opP (EvD.p (d := .lst (badS j k)) (ev_lst (by unfold badS; walk_at "ra") (by simp [badS])) (ev_taken (r := r3) (k := 2) (by walk_at "ra") (by decide) (by decide) rfl hr3 fun z r4 h0 h9 hr4 => ?_))))
  obtain ⟨b2, eb2, fb2, wb2⟩ := bad_s (j := j) (k := k) h0 h9
  refine ⟨b2, od_ixL eb2, ?_⟩
  show ExS G.K E _ [some (.lst (ns.map .int)), some (.ref l), some (.tup [.int u, .int d]), some (.lst [.int j, .int k]), some (coinD G u d), some (.lst [frD (pOf u d), frD (pOf d u)]), some (.int j), some (.int k), some (.ref x), some (.ref y), o1, o2, o3, o4, some b2] [(y, .dic T), (x, .dic kv), (l, r4)] _
  refine s_ret (d := .bl true) (EvD.is (ev_eqD (p1 := .str "state") (p2 := .str "state") (d1 := .str "state") (d2 := .str "state") (ev_call (ds := [coinD G u d, .int j, .int k, b2]) (by walk_at "ra") ⟨u, d, .int j, .int k, b2, rfl, su, sd, rfl, rfl, fb2, ?_⟩) (by walk_at "ra") rfl rfl (by decide +kernel) (by decide +kernel)) (congrArg D.bl (by decide +kernel))) (p _)
  rw [runTold_ok (within_run rj), runTold_ok (within_run rk)]
  show Ends2 _ _ (.rt (stateTold j k b2 .non) _)
  rw [stateTold_no wb2]
  exact ⟨rfl, rfl⟩
end RA
set_option Elab.async false
set_option linter.all false
set_option maxRecDepth 100000
set_option maxHeartbeats 1000000
/-! Dicts with tuple keys: a display of one pair. -/
namespace RA
open PySem PySem.Spec PyProof.Rows L2 Evl
/-- {(..): v}: the new dict stands empty while the pair is made -/
def tDispT1 (tk tv : TE) : TE := fun σ H Q => ∀ p, H p = none → tk σ (upd H p (.dT [])) fun x H1 => tv σ H1 fun y H2 => H2 p = some (.dT []) ∧ ∃ (ks : List L2.Key) (b : Addr), x = .ref b ∧ H2 b = some (.tup (ks.map kV)) ∧ Q (.ref p) (upd H2 p (.dT [(ks, y)]))
section
variable {X : Cx} {k v : Expr} {tk tv : TE} {pos : Pos}
theorem pe_dispT1 (hk : PE X k tk) (hv : PE X v tv) (hu : X.A.units + 1 < cLine) : PE X (.Dict [some k] [v] pos) (tDispT1 tk tv) := by
  refine ⟨fun pins s σ H Q I q => ?_⟩
  have hn := I.hok.fresh (Nat.le_refl s.heap.objs.size)
  have I1 := I.laid (a := s.heap.objs.size) (o := .dT []) (h' := s.heap.push { cls := .type "dict", data := .dict #[] }) (t' := s.toks) (fun _ _ q => Heap.get?_push_of_some _ q) (Nat.le_refl _) (dt_empty s.heap I.big)
  refine wpAny_Dict_any (by rfl) rfl (by simp) (by simp) ?_
  refine pairTrees_cons_walk ?_
  refine thn (hk.run pins _ σ _ _ I1 (q _ hn)) fun u s2 ⟨x, H2, I2, rx, q2⟩ => ?_
  refine thn (hv.run pins s2 σ H2 _ I2 q2) fun r s3 ⟨y, H3, I3, ry, e, ks, b, ex, eb, q3⟩ => ?_
  refine pairTrees_nil_walk ?_
  subst ex
  cases (show u = Value.ref b from rx)
  unfold storeAll
  rw [List.forIn_cons]
  obtain ⟨z, hd, xs, rel, dd⟩ := dt_of I3.hok e
  cases rel
  refine wpAny_bind (wpAny_bind (wpAny_dictSet_heap (hsz := by simp) (knd := tupleKind (mixKind X.prog X.w)) (by first | exact hu | exact Nat.lt_of_succ_lt hu | (show X.A.units < cLine; omega)) (key_of I3.hok eb) dd fun h' dd' hs => wpAny_pure ?_))
  show wpAny (model X.prog X.w) X.A (forIn ([] : List (Value × Value)) PUnit.unit _) _ X.xe _
  rw [List.forIn_nil]
  refine wpAny_pure ?_
  obtain ⟨o, es, ep, hq, h2, h3, h4, _, h5⟩ := dd'
  refine ⟨.ref s.heap.objs.size, _, ?_, rfl, q3⟩
  refine d_write I3 (by rw [e]; exact True.intro) hs ⟨o, hq⟩ ⟨by show 1 ≤ sizeLine; decide, hd, _, ((KT.put (kvs := []) (xs := []) .nil ks eb ry)).keeps fun c ys ec => ?_, o, es, ep, hq, h2, h3, h4, h5⟩
  rw [upd_ne (ne_of ec e (fun z => nomatch z))]
  exact ec
end
end RA
set_option Elab.async false
set_option linter.all false
set_option maxRecDepth 100000
set_option maxHeartbeats 1000000
/-! Dicts with tuple keys: locked walks, reads, writes. -/
namespace RA
open PySem PySem.Spec PyProof.Rows L2 Evl
abbrev TK := List L2.Key
def valT (kvs : List (TK × D)) (k : TK) : Option D := (kvs.find? fun kv => decide (kv.1 = k)).map (·.2)
def putT (kvs : List (TK × D)) (k : TK) (d : D) : List (TK × D) :=
  if (kvs.any fun kv => decide (kv.1 = k)) = true then kvs.map (fun kv => if kv.1 = k then (kv.1, d) else kv) else kvs ++ [(k, d)]
theorem valT_pos {p : TK × D} {r : List (TK × D)} {k : TK} (e : p.1 = k) : valT (p :: r) k = some p.2 := by simp [valT, List.find?_cons, e]
theorem valT_neg {p : TK × D} {r : List (TK × D)} {k : TK} (e : ¬ p.1 = k) : valT (p :: r) k = valT r k := by simp [valT, List.find?_cons, e]
abbrev KvT (K : PySem.W.Frag) (G : Hp) : List (TK × V) → List (TK × D) → Prop := Paired fun p q => p.1 = q.1 ∧ Den K G p.2 q.2
section
variable {K : PySem.W.Frag} {G : Hp} {ts : TSt} {m : Mem} {d : D} {E : XK} {P : D → Mem → Prop} {PO : Oc → Prop} {ta tb te tv : TE} {tt : TT} {t : TS}
theorem KvT.len {ws : List (TK × V)} {kvs : List (TK × D)} (r : KvT K G ws kvs) : ws.length = kvs.length := by
  unfold KvT at r
  induction r with
  | nil => rfl
  | cons _ _ ih => rw [List.length_cons, List.length_cons, ih]
theorem KvT.val {ws : List (TK × V)} {kvs : List (TK × D)} (r : KvT K G ws kvs) (k : TK) : (valT kvs k = none ∧ valV ws k = none) ∨ ∃ d v, valT kvs k = some d ∧ valV ws k = some v ∧ Den K G v d := by
  unfold KvT at r
  induction r with
  | nil => exact .inl ⟨rfl, rfl⟩
  | @cons p q ps qs h t ih =>
    by_cases e : p.1 = k
    · exact .inr ⟨q.2, p.2, valT_pos (h.1.symm.trans e), valV_pos e, h.2⟩
    · rw [valT_neg (fun z => e (h.1.trans z)), valV_neg e]; exact ih
theorem KvT.any {ws : List (TK × V)} {kvs : List (TK × D)} (r : KvT K G ws kvs) (k : TK) : (ws.any fun kv => decide (kv.1 = k)) = kvs.any fun kv => decide (kv.1 = k) := by
  unfold KvT at r
  induction r with
  | nil => rfl
  | cons h t ih => rw [List.any_cons, List.any_cons, ih, h.1]
theorem KvT.put {ws : List (TK × V)} {kvs : List (TK × D)} (r : KvT K G ws kvs) (k : TK) {v : V} (rv : Den K G v d) : KvT K G (putK ws k v) (putT kvs k d) := by
  unfold putK putT
  rw [r.any]
  split
  · rename_i c
    clear c
    unfold KvT at r ⊢
    induction r with
    | nil => exact .nil
    | @cons p q ps qs h t ih =>
      rw [List.map_cons, List.map_cons]
      refine .cons ?_ ih
      by_cases e : p.1 = k
      · rw [if_pos e, if_pos (h.1.symm.trans e)]; exact ⟨h.1, rv⟩
      · rw [if_neg e, if_neg (fun z => e (h.1.trans z))]; exact h
  · rename_i c
    clear c
    unfold KvT at r ⊢
    induction r with
    | nil => exact .cons ⟨rfl, rv⟩ .nil
    | cons h t ih => exact .cons h ih
theorem KvT.get {ws : List (TK × V)} {kvs : List (TK × D)} (r : KvT K G ws kvs) {i : Nat} {k : TK} {d : D} (h : kvs[i]? = some (k, d)) : ∃ v, ws[i]? = some (k, v) ∧ Den K G v d := by
  unfold KvT at r
  induction r generalizing i with
  | nil => simp at h
  | @cons p q ps qs hh t ih =>
    cases i with
    | zero =>
      simp only [List.getElem?_cons_zero, Option.some.injEq] at h
      subst h
      exact ⟨p.2, by simp only [List.getElem?_cons_zero, Option.some.injEq]; exact Prod.ext hh.1 rfl, hh.2⟩
    | succ i =>
      simp only [List.getElem?_cons_succ] at h ⊢
      exact ih h
/-- a tuple does not change -/
theorem MemOk.vis_tup {H : Hp} {q : Addr} {xs : List V} (M : MemOk K H m) (h : H q = some (.tup xs)) : vis m H q = some (.tup xs) := by
  rw [vis_out]
  · exact h
  · intro z
    obtain ⟨p, hp, e⟩ := List.mem_map.mp z
    have c := M.at_ p hp
    rw [e] at c
    generalize p.2 = dd at c
    cases dd <;> simp [Cell, h] at c
theorem dens_kV (k : TK) : Dens K G (k.map kV) (k.map kD) := by
  induction k with
  | nil => exact .nil
  | cons a r ih => exact .cons (den_kV a) ih
theorem Den.tk_tup {v : V} {k : TK} (h : Den K G v (.tk k)) : Den K G v (.tup (k.map kD)) := by
  obtain ⟨a, rfl, hh⟩ := h.tk_of
  exact .tup (SqT.of hh) (dens_kV k)
theorem ev_tk {k : TK} (h : EvD K te ts m (.tk k)) : EvD K te ts m (.tup (k.map kD)) := fun σ H M S Q q => h σ H M S _ fun v H1 d' m' ⟨e1, e2⟩ M1 x1 r1 => by
  subst e1; subst e2
  exact q v H1 _ _ ⟨rfl, rfl⟩ M1 x1 r1.tk_tup
/-- tuple(xs), xs in the memory -/
theorem keys_V {vs : List V} {k : TK} {H : Hp} (h : Dens K H vs (k.map kD)) : vs = k.map kV := by
  induction k generalizing vs with
  | nil => cases h; rfl
  | cons a r ih =>
    cases h with
    | cons h1 h2 => rw [den_key h1, ih h2]; rfl
theorem ev_tupleK {i : Nat} {l : Addr} {k : TK} (h : EvD K te ts m (.ref l)) (hk : m[i]? = some (l, .lst (k.map kD))) : EvD K (tCB (rTupleOf K) (tCons te tNil)) ts m (.tk k) := fun σ H M S Q q =>
  h σ H M S _ fun v H1 d' m' ⟨e1, e2⟩ M1 x1 r1 => by
    subst e1; subst e2
    obtain ⟨xs, hs, hd⟩ := M1.cell hk
    have e := keys_V hd
    subst e
    refine ⟨l, _, by rw [r1.ref_of], .inl ⟨SqL.of hs, fun p hp => q _ _ _ _ ⟨rfl, rfl⟩ (M1.new hp) (x1.trans (ex_new hp)) (.tk (vis_new M1 hp))⟩⟩
/-- list(k) -/
theorem ev_listK {k : TK} (h : EvD K te ts m (.tk k)) (hP : ∀ p, p ∉ m.map (·.1) → P (.ref p) ((p, .lst (k.map kD)) :: m)) : EvP K (tCB (rListOf K) (tCons te tNil)) ts m P := fun σ H M S Q q =>
  h σ H M S _ fun v H1 d' m' ⟨e1, e2⟩ M1 x1 r1 => by
    subst e1; subst e2
    obtain ⟨l, rfl, hs⟩ := r1.tk_of
    have hs' : H1 l = some (.tup (k.map kV)) := vis_ex _ _ hs
    refine ⟨l, _, rfl, .inr (SqT.of hs'), fun p hp => q _ _ _ _ (hP p (M1.fresh hp)) (M1.add hp ⟨_, upd_same, dens_kV k⟩) (x1.trans (ex_add hp)) (.ref p)⟩
/-- {} -/
theorem ev_dnewT (hP : ∀ p, p ∉ m.map (·.1) → P (.ref p) ((p, .dicT []) :: m)) : EvP K tDNewT ts m P := fun σ H M S Q q => fun p hp =>
  q _ _ _ _ (hP p (M.fresh hp)) (M.add hp ⟨[], upd_same, .nil⟩) (ex_add hp) (.ref p)
/-- (a, b) as a key -/
theorem ev_tupK {tl : TA} {k : TK} (h : EvL K tl ts m (k.map kD)) (hl : k.length ≤ 100000) : EvD K (tTup tl) ts m (.tk k) := fun σ H M S Q q =>
  h σ H M S _ fun vs H1 d' m' ⟨e1, e2⟩ M1 x1 r1 => by
    subst e1; subst e2
    have e := keys_V r1
    subst e
    exact ⟨sizeL (by rw [List.length_map]; exact hl), fun p hp => q _ _ _ _ ⟨rfl, rfl⟩ (M1.new hp) (x1.trans (ex_new hp)) (.tk (vis_new M1 hp))⟩
/-- {(..): v} -/
theorem ev_dispT1 {tk : TE} {k : TK} (hk : ∀ p, EvD K tk ts ((p, .dicT []) :: m) (.tk k)) (hv : ∀ p, EvD K tv ts ((p, .dicT []) :: m) d) (hP : ∀ p, p ∉ m.map (·.1) → P (.ref p) ((p, .dicT [(k, d)]) :: m)) : EvP K (tDispT1 tk tv) ts m P := fun σ H M S Q q => by
  intro p hp
  refine hk p σ _ (M.add hp ⟨[], upd_same, .nil⟩) (S.mono (ex_add hp)) _ fun x H1 d' m' ⟨e1, e2⟩ M1 x1 r1 => ?_
  subst e1; subst e2
  refine hv p σ H1 M1 (S.mono ((ex_add hp).trans x1)) _ fun y H2 d' m' ⟨e1, e2⟩ M2 x2 r2 => ?_
  subst e1; subst e2
  obtain ⟨w0, h0, r0⟩ := M2.cell (k := 0) (l := p) (d := .dicT []) rfl
  cases r0
  obtain ⟨b, rfl, hb⟩ := (r1.mono x2).tk_of
  refine ⟨h0, k, b, rfl, vis_ex _ _ hb, ?_⟩
  have W := M2.write (k := 0) (l := p) (d := .dicT []) (d' := .dicT [(k, d')]) (o := .dT [(k, y)]) rfl ⟨_, upd_same, .cons ⟨rfl, r2⟩ .nil⟩
  exact q _ _ _ _ (hP p (M.fresh hp)) W ((ex_add hp).trans (x1.trans (x2.trans (ex_write (k := 0) (d' := .dicT [(k, d')]) rfl)))) (.ref p)
/-- d[k], the dict locked -/
theorem ev_dgetLT {i : Nat} {a : Addr} {o : Obj} {ws : List (TK × V)} {kvs : List (TK × D)} {k : TK} (ha : EvD K ta ts m (.ref a)) (hb : EvD K tb ts m (.tk k)) (hk : m[i]? = some (a, .lkT o ws kvs)) (hv : valT kvs k = some d) : EvD K (tDGet ta tb) ts m d := fun σ H M S Q q =>
  ha σ H M S _ fun v H1 d' m' ⟨e1, e2⟩ M1 x1 r1 => by
    subst e1; subst e2
    refine hb σ H1 M1 (S.mono x1) _ fun w H2 d' m' ⟨e1, e2⟩ M2 x2 r2 => ?_
    subst e1; subst e2
    obtain ⟨hs, hd⟩ := M2.cell hk
    have hd : KvT K _ ws kvs := hd
    rcases hd.val k with ⟨z, _⟩ | ⟨d1, v1, z1, z2, z3⟩
    · rw [z] at hv; cases hv
    · rw [hv] at z1
      cases z1
      obtain ⟨b, rfl, hb2⟩ := r2.tk_of
      refine ⟨a, v1, r1.ref_of, ?_, q v1 H2 _ _ ⟨rfl, rfl⟩ M2 (x1.trans x2) z3⟩
      rw [← z2]
      exact .inr ⟨ws, k, b, .inr ⟨o, hs⟩, rfl, vis_ex _ _ hb2, rfl⟩
/-- d.get(k, x) -/
theorem ev_dget2T {i : Nat} {a : Addr} {kvs : List (TK × D)} {k : TK} {tx : TE} {dx : D} (ha : EvD K ta ts m (.ref a)) (hb : EvD K tb ts m (.tk k)) (hx : EvD K tx ts m dx) (hk : m[i]? = some (a, .dicT kvs)) : EvD K (tDGet2 ta tb tx) ts m ((valT kvs k).getD dx) := fun σ H M S Q q =>
  ha σ H M S _ fun v H1 d' m' ⟨e1, e2⟩ M1 x1 r1 => by
    subst e1; subst e2
    obtain ⟨w0, h0, _⟩ := M1.cell hk
    refine ⟨a, r1.ref_of, .inr ⟨w0, .inl h0⟩, ?_⟩
    refine hb σ H1 M1 (S.mono x1) _ fun w H2 d' m' ⟨e1, e2⟩ M2 x2 r2 => ?_
    subst e1; subst e2
    refine hx σ H2 M2 (S.mono (x1.trans x2)) _ fun u H3 d' m' ⟨e1, e2⟩ M3 x3 r3 => ?_
    subst e1; subst e2
    obtain ⟨ws, hs, hd⟩ := M3.cell hk
    have hd : KvT K _ ws kvs := hd
    obtain ⟨b, rfl, hb2⟩ := (r2.mono x3).tk_of
    have g : DGet H3 a (.ref b) (valV ws k) := .inr ⟨ws, k, b, .inl hs, rfl, vis_ex _ _ hb2, rfl⟩
    rcases hd.val k with ⟨z1, z2⟩ | ⟨d1, v1, z1, z2, z3⟩
    · exact ⟨_, g, by rw [z2]; exact q u H3 _ _ ⟨by rw [z1]; rfl, rfl⟩ M3 (x1.trans (x2.trans x3)) r3⟩
    · exact ⟨_, g, by rw [z2]; exact q v1 H3 _ _ ⟨by rw [z1]; rfl, rfl⟩ M3 (x1.trans (x2.trans x3)) z3⟩
/-- d[k] = v -/
theorem s_dputT {i : Nat} {a : Addr} {kvs : List (TK × D)} {k : TK} {tv : TE} (hv : EvD K tv ts m d) (ha : EvD K ta ts m (.ref a)) (hb : EvD K tb ts m (.tk k)) (hk : m[i]? = some (a, .dicT kvs)) (hl : kvs.length < 100000)
    (p : PO (.nx ts (m.set i (a, .dicT (putT kvs k d))))) : ExS K E (sDPut ta tb tv) ts m PO := fun σ H De M S kk =>
  hv σ H M S _ fun v H1 d' m' ⟨e1, e2⟩ M1 x1 r1 => by
    subst e1; subst e2
    refine ha σ H1 M1 (S.mono x1) _ fun u H2 d' m' ⟨e1, e2⟩ M2 x2 r2 => ?_
    subst e1; subst e2
    refine hb σ H2 M2 (S.mono (x1.trans x2)) _ fun w H3 d' m' ⟨e1, e2⟩ M3 x3 r3 => ?_
    subst e1; subst e2
    obtain ⟨ws, hs, hd⟩ := M3.cell hk
    have hd : KvT K _ ws kvs := hd
    obtain ⟨b, rfl, hb2⟩ := r3.tk_of
    refine ⟨a, _, r2.ref_of, DPut.t hs (vis_ex _ _ hb2) (sz_lt (by rw [hd.len]; exact hl)), ?_⟩
    exact kk _ p σ _ (M3.write hk ⟨_, upd_same, hd.put k (r1.mono (x2.trans x3))⟩) (x1.trans (x2.trans (x3.trans (ex_write hk)))) (S.mono (x1.trans (x2.trans (x3.trans (ex_write hk)))))
def unlT (a : Addr) (o : Obj) (ws : List (TK × V)) (kvs : List (TK × D)) (P : Oc → Prop) : Oc → Prop
  | .nx ts m => ∃ k, m[k]? = some (a, .lkT o ws kvs) ∧ P (.nx ts (m.set k (a, .dicT kvs)))
  | .bk ts m => ∃ k, m[k]? = some (a, .lkT o ws kvs) ∧ P (.bk ts (m.set k (a, .dicT kvs)))
  | .ct ts m => ∃ k, m[k]? = some (a, .lkT o ws kvs) ∧ P (.ct ts (m.set k (a, .dicT kvs)))
  | .rt d m => ∃ k, m[k]? = some (a, .lkT o ws kvs) ∧ P (.rt d (m.set k (a, .dicT kvs)))
  | .ra _ _ _ => False
theorem s_lockT {k : Nat} {a : Addr} {kvs : List (TK × D)} (hk : m[k]? = some (a, .dicT kvs)) (h : ∀ o ws, ExS K E t ts (m.set k (a, .lkT o ws kvs)) (unlT a o ws kvs PO)) : ExS K E (tLock t) ts m PO := fun σ H De M S kk => by
  obtain ⟨ws, hs, hd⟩ := M.cell hk
  refine ⟨a, .dT ws, hs, True.intro, fun od => ?_⟩
  have Ml : MemOk K (upd H a (.frz od (.dT ws))) (m.set k (a, .lkT od ws kvs)) := M.write hk ⟨upd_same, hd⟩
  have Xl : Ex (vis m H) (vis (m.set k (a, .lkT od ws kvs)) (upd H a (.frz od (.dT ws)))) := ex_write hk
  have back : ∀ {m1 : Mem} {H1 : Hp} {j : Nat}, MemOk K H1 m1 → m1[j]? = some (a, .lkT od ws kvs) → H1 a = some (.frz od (.dT ws)) ∧ MemOk K (upd H1 a (.dT ws)) (m1.set j (a, .dicT kvs)) ∧ Ex (vis m1 H1) (vis (m1.set j (a, .dicT kvs)) (upd H1 a (.dT ws))) := fun {m1 H1 j} M1 hj => by
    obtain ⟨h1, r1⟩ := M1.cell hj
    exact ⟨h1, M1.write hj ⟨_, upd_same, r1⟩, ex_write hj⟩
  refine h od ws σ _ _ Ml (S.mono Xl) fun o p => ?_
  cases o with
  | nx ts1 m1 =>
    obtain ⟨j, hj, p⟩ := p
    intro σ1 H1 M1 x1 S1
    obtain ⟨b1, b2, b3⟩ := back M1 hj
    exact ⟨b1, kk _ p σ1 _ b2 (Xl.trans (x1.trans b3)) (S1.mono b3)⟩
  | bk ts1 m1 =>
    obtain ⟨j, hj, p⟩ := p
    intro σ1 H1 M1 x1 S1
    obtain ⟨b1, b2, b3⟩ := back M1 hj
    exact ⟨b1, kk _ p σ1 _ b2 (Xl.trans (x1.trans b3)) (S1.mono b3)⟩
  | ct ts1 m1 =>
    obtain ⟨j, hj, p⟩ := p
    intro σ1 H1 M1 x1 S1
    obtain ⟨b1, b2, b3⟩ := back M1 hj
    exact ⟨b1, kk _ p σ1 _ b2 (Xl.trans (x1.trans b3)) (S1.mono b3)⟩
  | rt d m1 =>
    obtain ⟨j, hj, p⟩ := p
    intro v H1 M1 x1 r1
    obtain ⟨b1, b2, b3⟩ := back M1 hj
    exact ⟨b1, kk _ p v _ b2 (Xl.trans (x1.trans b3)) (r1.mono b3)⟩
  | ra C fs m1 => exact p.elim
theorem ev_lockT {k : Nat} {a : Addr} {kvs : List (TK × D)} (hk : m[k]? = some (a, .dicT kvs)) (h : ∀ o ws, EvP K te ts (m.set k (a, .lkT o ws kvs)) fun d m1 => ∃ j, m1[j]? = some (a, .lkT o ws kvs) ∧ P d (m1.set j (a, .dicT kvs))) : EvP K (tLockE te) ts m P := fun σ H M S Q q => by
  obtain ⟨ws, hs, hd⟩ := M.cell hk
  refine ⟨a, .dT ws, hs, True.intro, fun od => ?_⟩
  have Ml : MemOk K (upd H a (.frz od (.dT ws))) (m.set k (a, .lkT od ws kvs)) := M.write hk ⟨upd_same, hd⟩
  have Xl : Ex (vis m H) (vis (m.set k (a, .lkT od ws kvs)) (upd H a (.frz od (.dT ws)))) := ex_write hk
  refine h od ws σ _ Ml (S.mono Xl) _ fun v H1 d1 m1 ⟨j, hj, p⟩ M1 x1 r1 => ?_
  obtain ⟨h1, rr⟩ := M1.cell hj
  exact ⟨h1, q v _ _ _ p (M1.write hj ⟨_, upd_same, rr⟩) (Xl.trans (x1.trans (ex_write hj))) (r1.mono (ex_write hj))⟩
def PmT (a : Addr) (o : Obj) (ws : List (TK × V)) (kvs : List (TK × D)) : Mem → Prop := fun m => ∃ k : Nat, m[k]? = some (a, D.lkT o ws kvs)
theorem wk_keysT {k : Nat} {a : Addr} {o : Obj} {ws : List (TK × V)} {kvs : List (TK × D)} (h : EvD K te ts m (.ref a)) (hk : m[k]? = some (a, .lkT o ws kvs)) : WkD K (iKeys te) ts m (PmT a o ws kvs) (kvs.map fun p => .tk p.1) := fun σ H M S R kk =>
  h σ H M S _ fun v H1 d' m' ⟨e1, e2⟩ M1 x1 r1 => by
    subst e1; subst e2
    obtain ⟨h1, _⟩ := M1.cell hk
    refine ⟨a, o, r1.ref_of, .inr ⟨ws, h1, kk _ H1 M1 x1 fun m2 H2 pm M2 x2 => ?_⟩⟩
    obtain ⟨j, hj⟩ := pm
    obtain ⟨h2, rr⟩ := M2.cell hj
    have rr : KvT K _ ws kvs := rr
    refine ⟨fun i hi => ⟨h2, by rw [rr.len]; simpa using hi⟩, fun i d hi => ?_⟩
    rw [List.getElem?_map] at hi
    cases q : kvs[i]? with
    | none => rw [q] at hi; cases hi
    | some p =>
      rw [q] at hi
      cases hi
      obtain ⟨v, hv, _⟩ := rr.get q
      refine ⟨⟨h2, (List.getElem?_eq_some_iff.mp hv).1⟩, fun x H3 ⟨eH, k', v', b, g1, g2, g3⟩ => ?_⟩
      subst eH
      rw [hv] at g1
      cases g1
      subst g2
      exact ⟨M2, Ex.refl _, .tk (M2.vis_tup g3)⟩
/-- xs[i], ys[j] = a, b: two lists of the memory -/
theorem s_set2L {tl tl2 ti tj : TE} {k k2 : Nat} {l l2 : Addr} {i j : Int} {i' j' : Nat} {x y : D} {ds es : List D} (ha : EvD K ta ts m x) (hb : EvD K tb ts m y) (hl : ∀ m', EvD K tl ts m' (.ref l)) (hl2 : ∀ m', EvD K tl2 ts m' (.ref l2)) (hi : ∀ m', EvD K ti ts m' (.int i)) (hj : ∀ m', EvD K tj ts m' (.int j))
    (hk : m[k]? = some (l, .lst ds)) (hk2 : (m.set k (l, .lst (ds.set i' x)))[k2]? = some (l2, .lst es)) (e1 : ixN ds.length i = some i') (e2 : ixN es.length j = some j') (p : PO (.nx ts ((m.set k (l, .lst (ds.set i' x))).set k2 (l2, .lst (es.set j' y))))) :
    ExS K E (tAsg (tTup (tCons ta (tCons tb tNil))) (gTup K 2 (gCons (gSub tl ti rSetL) (gCons (gSub tl2 tj rSetL) gNil)))) ts m PO := fun σ H De M S kk =>
  (ev_tup (ea_cons ha (ea_cons hb ea_nil)) (show (2 : Nat) ≤ 100000 by decide)) σ H M S _ fun v H1 d' m' ⟨e3, e4⟩ M1 x1 r1 => by
    subst e3; subst e4
    obtain ⟨a, xs, rfl, hs, hd⟩ := r1.tup_of
    obtain ⟨v1, v2, rfl, rx, ry⟩ := hd.two
    refine ⟨a, _, rfl, ex_t vis_ex hs, rfl, v1, [v2], rfl, ?_⟩
    refine hl m' σ H1 M1 (S.mono x1) _ fun u H2 d' m2 ⟨e1, e2⟩ M2 x2 r2 => ?_
    subst e1; subst e2
    refine hi m2 σ H2 M2 (S.mono (x1.trans x2)) _ fun w H3 d' m3 ⟨e1, e2⟩ M3 x3 r3 => ?_
    subst e1; subst e2
    obtain ⟨zs, hz, hdz⟩ := M3.cell hk
    refine ⟨l, zs, i, i', r2.ref_of, r3.int_of, hz, by rw [hdz.length]; exact e1, ?_⟩
    have M4 := M3.write hk (d' := .lst (ds.set i' x)) ⟨_, upd_same, hdz.set i' (rx.mono (x2.trans x3))⟩
    have x4 := ex_write (m := m3) (H := H3) (k := k) (l := l) (d := .lst ds) (d' := .lst (ds.set i' x)) (o := .lst (zs.set i' v1)) hk
    refine ⟨v2, [], rfl, ?_⟩
    refine hl2 _ σ _ M4 (S.mono (x1.trans (x2.trans (x3.trans x4)))) _ fun u5 H5 d' m5 ⟨e5, e6⟩ M5 x5 r5 => ?_
    subst e5; subst e6
    refine hj _ σ H5 M5 (S.mono (x1.trans (x2.trans (x3.trans (x4.trans x5))))) _ fun w6 H6 d' m6 ⟨e5, e6⟩ M6 x6 r6 => ?_
    subst e5; subst e6
    obtain ⟨ys, hy, hdy⟩ := M6.cell hk2
    refine ⟨l2, ys, j, j', r5.ref_of, r6.int_of, hy, by rw [hdy.length]; exact e2, rfl, ?_⟩
    have M7 := M6.write hk2 (d' := .lst (es.set j' y)) ⟨_, upd_same, hdy.set j' (ry.mono (x2.trans (x3.trans (x4.trans (x5.trans x6)))))⟩
    have x7 := ex_write (m := m3.set k (l, .lst (ds.set i' x))) (H := H6) (k := k2) (l := l2) (d := .lst es) (d' := .lst (es.set j' y)) (o := .lst (ys.set j' v2)) hk2
    exact kk _ p σ _ M7 (x1.trans (x2.trans (x3.trans (x4.trans (x5.trans (x6.trans x7)))))) (S.mono (x1.trans (x2.trans (x3.trans (x4.trans (x5.trans (x6.trans x7)))))))
end
end RA
set_option Elab.async false
set_option linter.all false
set_option maxRecDepth 100000
set_option maxHeartbeats 1000000
set_option exponentiation.threshold 10000
namespace RA
open PySem PySem.Spec PyProof.Rows L2 Evl
/-! the walk over a reading -/
local macro_rules | `(tactic| walk_at "ra1") => `(tactic| first
  | exact ev_int
  | exact ev_bl
  | exact ev_non
  | exact ev_str
  | exact ev_ty
  | exact ev_ref
  | (refine ev_var ?_; rfl)
  | exact ea_nil
  | apply ea_cons
  | apply ev_opI0
  | apply ev_opB0
  | apply ev_opI
  | refine ev_neg ?_
  | apply ev_ixT
  | (show atI _ _ = some _; rfl)
  | refine ev_tup ?_ (by first | decide | simp)
  | apply ev_cb
  | apply ev_call
  | refine et_test ?_
  | refine et_B ?_
  | refine et_not ?_
  | exact et_yes)
local macro_rules | `(tactic| walk_at "ra") => `(tactic| repeat' (walk_at "ra1"))
theorem frD_inj {p q : Rat} (h : frD p = frD q) : p = q := by
  unfold frD at h
  simp only [D.tup.injEq, List.cons.injEq, D.int.injEq, and_true, Int.natCast_inj] at h
  exact Rat.ext h.1 h.2
theorem fr_isK06 {q : Rat} {a : Int} {b : Nat} (h : q.num = a ∧ q.den = b) : frD q = .tup [.int a, .int (b : Int)] := by unfold frD; rw [h.1, h.2]
/-! dicts by their pairs -/
theorem valD_mem {kn : List (Key × D)} (nd : (kn.map (·.1)).Nodup) : ∀ {s : Key} {d : D}, (s, d) ∈ kn → valD kn s = some d := by
  induction kn with
  | nil => intro s d h; exact nomatch h
  | cons p r ih =>
    intro s d h
    rw [List.map_cons, List.nodup_cons] at nd
    rcases List.mem_cons.mp h with e | h
    · subst e; exact valD_pos rfl
    · have hne : ¬ p.1 = s := fun z => nd.1 (by rw [z]; exact List.mem_map_of_mem (f := (·.1)) h)
      rw [valD_neg hne]; exact ih nd.2 h
theorem merge_nodup : ∀ {more acc : List (Key × D)}, ((acc ++ more).map (·.1)).Nodup → mergeD acc more = acc ++ more
  | [], acc, _ => by rw [List.append_nil]; rfl
  | p :: r, acc, h => by
    have hn : valD acc p.1 = none := by
      cases q : valD acc p.1 with
      | none => rfl
      | some d =>
        exfalso
        have hm : p.1 ∈ acc.map (·.1) := by
          have a : (acc.any fun kv => decide (kv.1 = p.1)) = true := by rw [valD_any, q]; rfl
          obtain ⟨z, hz, e⟩ := List.any_eq_true.mp a
          exact List.mem_map.mpr ⟨z, hz, of_decide_eq_true e⟩
        rw [List.map_append, List.nodup_append] at h
        exact h.2.2 _ hm _ (by simp) rfl
    show mergeD (putKD acc p.1 p.2) r = _
    rw [putKD_new _ hn, merge_nodup (acc := acc ++ [(p.1, p.2)]) (by rw [List.append_assoc]; exact h), List.append_assoc]; rfl
theorem nodup_ofLt (lo : Int) (f : Int → D) (n : Nat) : ((rgKv lo f n).map (·.1)).Nodup := by
  unfold rgKv
  rw [List.map_map]
  rw [List.nodup_iff_pairwise_ne, List.pairwise_map]
  refine List.Pairwise.imp_of_mem ?_ (List.nodup_range (n := n))
  intro a b _ _ h z
  have : lo + (a : Int) = lo + (b : Int) := Sum.inl.inj z
  exact h (by omega)
theorem known_ch {u d j k : Int} (su : Share u) (sd : Share d) (rj : Run j) (rk : Run k) : Known (chancesKv u d j k) := by
  have rj' := rj
  have rk' := rk
  unfold Run at rj' rk'
  refine ⟨by rw [chancesKv_rg]; exact nodup_ofLt _ _ _, fun p hp => ?_, fun p hp => ?_, ?_⟩
  · unfold chancesKv at hp
    obtain ⟨i, hi, rfl⟩ := List.mem_map.mp hp
    rw [List.mem_range] at hi
    exact ⟨_, rfl, by omega, by omega⟩
  · unfold chancesKv at hp
    obtain ⟨i, hi, rfl⟩ := List.mem_map.mp hp
    rw [List.mem_range] at hi
    exact ⟨_, rfl, sz_chance su sd rj rk (by omega) (by omega)⟩
  · unfold chancesKv
    rw [List.length_map, List.length_range]; omega
theorem putKD_len {kvs : List (Key × D)} {k : Key} {d0 d : D} (h : valD kvs k = some d0) : (putKD kvs k d).length = kvs.length := by
  unfold putKD
  rw [valD_any, h, if_pos (show (some d0).isSome = true from rfl), List.length_map]
theorem bent_put {kn : List (Key × D)} (K : Known kn) {s : Key} {d0 d : D} (h : (s, d0) ∈ kn) (hd : FrOk d) (hb : isFracD d = false ∨ ∃ q q0, d = frD q ∧ d0 = frD q0 ∧ q ≠ q0) : ShowsIs kn (putKD kn s d) false :=
  .bad s d0 d (putKD_len (valD_mem K.nd h)) h (fun p hp hne => by rw [valD_put, if_neg hne]; exact valD_mem K.nd hp) (by rw [valD_put, if_pos rfl]) hd hb
section
variable {K : PySem.W.Frag} {ts : TSt} {m : Mem} {d : D} {E : XK} {P : D → Mem → Prop} {PO : Oc → Prop} {ta tb te tv : TE}
theorem ev_dnotin {i : Nat} {a : Addr} {kvs : List (Key × D)} {k : Key} (hb : EvD K tb ts m (kD k)) (ha : EvD K ta ts m (.ref a)) (hk : m[i]? = some (a, .dic kvs)) : EvD K (tDNotIn tb ta) ts m (.bl (!(valD kvs k).isSome)) := fun σ H M S Q q =>
  hb σ H M S _ fun w H1 d' m' ⟨e1, e2⟩ M1 x1 r1 => by
    subst e1; subst e2
    refine ha σ H1 M1 (S.mono x1) _ fun v H2 d' m' ⟨e1, e2⟩ M2 x2 r2 => ?_
    subst e1; subst e2
    obtain ⟨ws, hs, hd⟩ := M2.cell hk
    have hd : KvR K _ ws kvs := hd
    refine ⟨a, valV ws k, r2.ref_of, by rw [den_key r1]; exact DGet.k hs, ?_⟩
    have e : (valV ws k).isSome = (valD kvs k).isSome := by
      rcases hd.val k with ⟨z1, z2⟩ | ⟨d1, v1, z1, z2, _⟩
      · rw [z1, z2]; rfl
      · rw [z1, z2]; rfl
    rw [e]
    exact q _ H2 _ _ ⟨rfl, rfl⟩ M2 (x1.trans x2) (.bl _)
/-- all(bs) -/
theorem cb_all {bs : List Bool} : CbD K (rAll K) [.lst (bs.map .bl)] m (.bl (bs.all id)) := fun vs H M r Q q => by
  obtain ⟨v, rfl, r'⟩ := r.one
  obtain ⟨a, xs, rfl, hs, hd⟩ := r'.lst_of
  have e : ∀ {bs : List Bool} {xs : List V}, Dens K (vis m H) xs (bs.map .bl) → xs = bs.map .bl := by
    intro bs
    induction bs with
    | nil => intro xs h; cases h; rfl
    | cons b r ih =>
      intro xs h
      cases h with
      | cons h1 h2 => rw [h1.bl_of, ih h2]; rfl
  rw [e hd] at hs
  exact ⟨a, bs, rfl, ex_l vis_ex hs, q _ H M (Ex.refl _) (.bl _)⟩
/-- xs[::-1] -/
theorem ev_revL {ds : List D} (h : EvD K te ts m (.lst ds)) : EvD K (tRevL K te) ts m (.lst ds.reverse) := fun σ H M S Q q =>
  h σ H M S _ fun v H1 d' m' ⟨e1, e2⟩ M1 x1 r1 => by
    subst e1; subst e2
    obtain ⟨a, xs, rfl, hs, hd⟩ := r1.lst_of
    exact ⟨a, xs, rfl, ex_l vis_ex hs, fun p hp => q _ _ _ _ ⟨rfl, rfl⟩ (M1.new hp) (x1.trans (ex_new hp)) (.lst (SqL.of (vis_new M1 hp)) (hd.reverse.mono (ex_new hp)))⟩
/-- dict(d) -/
theorem ev_dictC {i : Nat} {a : Addr} {kvs : List (Key × D)} (h : EvD K te ts m (.ref a)) (hk : m[i]? = some (a, .dic kvs)) (hP : ∀ p, p ∉ m.map (·.1) → P (.ref p) ((p, .dic kvs) :: m)) : EvP K (tCB rDictC (tCons te tNil)) ts m P := fun σ H M S Q q =>
  h σ H M S _ fun v H1 d' m' ⟨e1, e2⟩ M1 x1 r1 => by
    subst e1; subst e2
    obtain ⟨ws, hs, hd⟩ := M1.cell hk
    exact ⟨a, ws, by rw [r1.ref_of], .inl hs, fun p hp => q _ _ _ _ (hP p (M1.fresh hp)) (M1.add hp ⟨ws, upd_same, hd⟩) (x1.trans (ex_add hp)) (.ref p)⟩
def dropKD (kvs : List (Key × D)) (k : Key) : List (Key × D) := kvs.filter fun kv => decide (kv.1 ≠ k)
theorem KvR.drop {G : Hp} {ws : List (Key × V)} {kvs : List (Key × D)} (r : KvR K G ws kvs) (k : Key) : KvR K G (dropK ws k) (dropKD kvs k) := by
  unfold KvR at *
  unfold dropK dropKD
  induction r with
  | nil => exact .nil
  | @cons p q ps qs h t ih =>
    by_cases e : p.1 = k
    · rw [List.filter_cons_of_neg (by simp [e]), List.filter_cons_of_neg (by simp [← h.1, e])]; exact ih
    · rw [List.filter_cons_of_pos (by simp [e]), List.filter_cons_of_pos (by simp [← h.1, e])]; exact .cons h ih
/-- x[k] = v, where v changes the memory -/
theorem s_dputXP {i : Nat} {kvs : List (Key × D)} {k : Key} {tv : TE} (hv : EvP K tv ts m fun d m1 => ∃ a, i = 0 ∧ m1[i]? = some (a, .dic kvs) ∧ (∀ m', EvD K ta ts m' (.ref a)) ∧ (∀ m', EvD K tb ts m' (kD k)) ∧ kvs.length < 100000 ∧ PO (.nx ts (m1.set i (a, .dic (putKD kvs k d))))) : ExS K E (sDPutX ta tb tv) ts m PO := fun σ H De M S kk =>
  hv σ H M S _ fun v H1 d m1 ⟨a, _, hk, ha, hb, hl, p⟩ M1 x1 r1 => by
    have key := s_dputX (K := K) (E := E) (PO := PO) (ts := ts) (m := m1) (d := d) (ta := ta) (tb := tb) (tv := fun σ' H' Q => Q v H') (i := i) (a := a) (kvs := kvs) (k := k)
    refine ha m1 σ H1 M1 (S.mono x1) _ fun u H2 d' m' ⟨e1, e2⟩ M2 x2 r2 => ?_
    subst e1; subst e2
    refine hb m' σ H2 M2 (S.mono (x1.trans x2)) _ fun w H3 d' m'' ⟨e1, e2⟩ M3 x3 r3 => ?_
    subst e1; subst e2
    obtain ⟨ws, hs, hd⟩ := M3.cell hk
    have hd : KvR K _ ws kvs := hd
    refine ⟨a, r2.ref_of, .inl ⟨_, by rw [den_key r3]; exact DPut.k hs (sz_lt (by rw [hd.len]; exact hl)), ?_⟩⟩
    exact kk _ p σ _ (M3.write hk ⟨_, upd_same, hd.put k (r1.mono (x2.trans x3))⟩) (x1.trans (x2.trans (x3.trans (ex_write hk)))) (S.mono (x1.trans (x2.trans (x3.trans (ex_write hk)))))
/-- x[k] = v, where k changes the memory, and may be of another kind -/
theorem s_dputK {i : Nat} {a : Addr} {kvs : List (Key × D)} {dv : D} {tv : TE} (hv : EvD K tv ts m dv) (ha : EvD K ta ts m (.ref a))
    (hb : EvP K tb ts m fun dk m1 => m1[i]? = some (a, .dic kvs) ∧ kvs.length < 100000 ∧ ((∃ k, dk = kD k ∧ PO (.nx ts (m1.set i (a, .dic (putKD kvs k dv))))) ∨
      ((dk = .non ∨ dk = .tk [.inl 0]) ∧ (∀ p ∈ kvs, ∃ i : Int, p.1 = .inl i ∧ -100 ≤ i ∧ i ≤ 100) ∧ PO (.nx ts (m1.set i (a, .xt (OddD a (kvs.length + 1)))))))) : ExS K E (sDPutX ta tb tv) ts m PO := fun σ H De M S kk =>
  hv σ H M S _ fun v H1 d' m' ⟨e1, e2⟩ M1 x1 r1 => by
    subst e1; subst e2
    refine ha σ H1 M1 (S.mono x1) _ fun u H2 d' m' ⟨e1, e2⟩ M2 x2 r2 => ?_
    subst e1; subst e2
    refine hb σ H2 M2 (S.mono (x1.trans x2)) _ fun w H3 dk m1 ⟨hk, hl, hc⟩ M3 x3 r3 => ?_
    obtain ⟨ws, hs, hd⟩ := M3.cell hk
    have hd : KvR K _ ws kvs := hd
    refine ⟨a, r2.ref_of, ?_⟩
    rcases hc with ⟨k, rfl, p⟩ | ⟨hdk, hi, p⟩
    · refine .inl ⟨_, by rw [den_key r3]; exact DPut.k hs (sz_lt (by rw [hd.len]; exact hl)), ?_⟩
      exact kk _ p σ _ (M3.write hk ⟨_, upd_same, hd.put k (r1.mono (x2.trans x3))⟩) (x1.trans (x2.trans (x3.trans (ex_write hk)))) (S.mono (x1.trans (x2.trans (x3.trans (ex_write hk)))))
    · have hi' : ∀ p ∈ ws, ∃ i : Int, p.1 = .inl i ∧ -100 ≤ i ∧ i ≤ 100 := fun p hp => by
        obtain ⟨j, hj⟩ := List.getElem?_of_mem hp
        have hlt := (List.getElem?_eq_some_iff.mp hj).1
        have hlt2 : j < kvs.length := by rw [← hd.len]; exact hlt
        obtain ⟨i, h1, h2⟩ := hi kvs[j] (List.getElem_mem hlt2)
        obtain ⟨v', hv', _⟩ := hd.get (i := j) (k := kvs[j].1) (d := kvs[j].2) (List.getElem?_eq_getElem hlt2)
        rw [hj] at hv'
        cases hv'
        exact ⟨i, h1, h2⟩
      have hy : w = .non ∨ ∃ b, w = .ref b ∧ H3 b = some (.tup [.int 0]) := by
        rcases hdk with e | e
        · subst e; exact .inl r3.non_of
        · subst e
          obtain ⟨b, rfl, hb⟩ := r3.tk_of
          exact .inr ⟨b, rfl, vis_ex _ _ hb⟩
      refine .inr ⟨ws, hs, sz_lt (by rw [hd.len]; exact hl), hi', hy, ?_⟩
      rw [hd.len]
      have W := M3.write hk (d' := .xt (OddD a (kvs.length + 1))) (o := .ext (OddD a (kvs.length + 1))) upd_same
      have x4 := ex_write (m := m1) (H := H3) (k := i) (l := a) (d := .dic kvs) (d' := .xt (OddD a (kvs.length + 1))) (o := .ext (OddD a (kvs.length + 1))) hk
      exact kk _ p σ _ W (x1.trans (x2.trans (x3.trans x4))) (S.mono (x1.trans (x2.trans (x3.trans x4))))
/-- d.pop(k) -/
theorem s_dpop {i : Nat} {a : Addr} {kvs : List (Key × D)} {k : Key} (ha : EvD K ta ts m (.ref a)) (hb : EvD K tb ts m (kD k)) (hk : m[i]? = some (a, .dic kvs)) (hv : valD kvs k = some d)
    (p : PO (.nx ts (m.set i (a, .dic (dropKD kvs k))))) : ExS K E (tDrop (tDPop1 ta tb)) ts m PO := s_dropP fun σ H M S Q q =>
  ha σ H M S _ fun v H1 d' m' ⟨e1, e2⟩ M1 x1 r1 => by
    subst e1; subst e2
    obtain ⟨w0, h0, _⟩ := M1.cell hk
    refine ⟨a, r1.ref_of, .inl ⟨w0, .inl h0⟩, ?_⟩
    refine hb σ H1 M1 (S.mono x1) _ fun w H2 d' m' ⟨e1, e2⟩ M2 x2 r2 => ?_
    subst e1; subst e2
    obtain ⟨ws, hs, hd⟩ := M2.cell hk
    have hd : KvR K _ ws kvs := hd
    rcases hd.val k with ⟨z, _⟩ | ⟨d1, v1, z1, z2, z3⟩
    · rw [z] at hv; cases hv
    · exact ⟨ws, k, v1, hs, den_key r2, z2, q v1 _ d1 _ p (M2.write hk ⟨_, upd_same, hd.drop k⟩) (x1.trans (x2.trans (ex_write hk))) (z3.mono (ex_write hk))⟩
end
section
variable {G : Gam} {ds : List D} {ts : TSt} {m : Mem} {P : Oc → Prop} {E : XK} {tl : TA} {te : TE}
theorem isX_flat {tl : TA} {d : D} (hf : Flat d) (h : EvL G.K tl ts m [d, .ty "dict"]) : EvD G.K (tCB (rIsiX G.K) tl) ts m (.bl false) := by
  cases d <;> first | exact ev_cb h (cb_isiX rfl rfl) | exact absurd hf (by simp [Flat, tyD])
theorem kn_at {kn : List (Key × D)} {i : Nat} {d : D} (h : (kn.map fun p => D.tup [kD p.1, p.2])[i]? = some d) : ∃ s v, kn[i]? = some (s, v) ∧ d = .tup [kD s, v] := by
  rw [List.getElem?_map] at h
  cases e : kn[i]? with
  | none => rw [e] at h; cases h
  | some q => rw [e] at h; cases h; exact ⟨q.1, q.2, rfl, rfl⟩
theorem p_shows (h : R_shows G ds m P) : ExS G.K E (t_shows G E) (startT n_shows ds) m (Fin P) := by
  obtain ⟨u, d, j, k, v, rfl, su, sd, fj, fk, h1, h2, h3⟩ := h
  show ExS G.K E (t_shows G E) [some (coinD G u d), some j, some k, some v, none, none, none] m (Fin P)
  refine ExS.sub ?_
  refine s_seq (s_asgX (ev_callX (EvL.p (ds := [coinD G u d, j, k]) (by walk_at "ra") ⟨u, d, j, k, rfl, su, sd, fj, fk, fun wj wk f hf => ?_, fun wj wk => h2 wj wk, fun wj => h1 wj⟩)))
  obtain ⟨b, hv, p⟩ := h3 wj wk
  have rj : Run (intD j) := by obtain ⟨_, a, b⟩ := within_int wj; exact ⟨a, b⟩
  have rk : Run (intD k) := by obtain ⟨_, a, b⟩ := within_int wk; exact ⟨a, b⟩
  have KN := known_ch su sd rj rk
  generalize chancesKv u d (intD j) (intD k) = kn at *
  show ExS G.K E _ [some (coinD G u d), some j, some k, some v, some (.ref f), none, none] ((f, .dic kn) :: m) _
  have back : P (.rt (.bl b) m) → subP (Fin P) (.rt (.bl b) ((f, .dic kn) :: m)) := fun p => ⟨m, .cons _ (List.Sublist.refl _), p⟩
  rcases hv with ⟨fv, rfl⟩ | ⟨i, a, kvs, rfl, hi, hl, hs⟩ | ⟨i, a, n, rfl, hi, hn, hne, rfl⟩
  · exact s_seq (s_if1 (et_or1 (EvT.is (et_not (et_B (isX_flat fv (by walk_at "ra")))) rfl)) (s_ret ev_bl (back p)))
  · have hi1 : ((f, D.dic kn) :: m)[i + 1]? = some (a, .dic kvs) := by rw [List.getElem?_cons_succ]; exact hi
    have t1 : EvT G.K (tNot (tB (tCB (rIsiX G.K) (tCons (tVar 3) (tCons (tC (.ty "dict")) tNil))))) [some (coinD G u d), some j, some k, some (.ref a), some (.ref f), none, none] ((f, .dic kn) :: m) false := EvT.is (et_not (et_B (ev_cb (by walk_at "ra") (cb_isiDic (k := i + 1) hi1)))) rfl
    have t2 : EvT G.K (tTest (tOp rNe (tCB rLenDict (tCons (tVar 3) tNil)) (tCB rLenDict (tCons (tVar 4) tNil)))) [some (coinD G u d), some j, some k, some (.ref a), some (.ref f), none, none] ((f, .dic kn) :: m) (!decide ((kvs.length : Int) = kn.length)) := et_test (ev_ne (d1 := .int kvs.length) (d2 := .int kn.length) (ev_cb (by walk_at "ra") (cb_lenDic (k := i + 1) hi1)) (ev_cb (by walk_at "ra") (cb_lenDic (k := 0) rfl)) rfl)
    by_cases hlen : kvs.length = kn.length
    · refine s_seq (s_if0 (et_or0 t1 (EvT.is t2 (by rw [decide_eq_true (by omega)]; rfl))) (s_next ?_))
      refine s_seq (s_lock (k := 0) (a := f) (kvs := kn) rfl fun o ws => s_for (wk_items (k := 0) (a := f) (o := o) (ws := ws) (kvs := kn) (ev_var rfl) rfl)
        (fun n ts1 m1 => ∃ o5 o6, n ≤ kn.length ∧ (∀ q ∈ kn.take n, valD kvs q.1 = some q.2) ∧ m1 = (f, .lk o ws kn) :: m ∧ ts1 = [some (coinD G u d), some j, some k, some (.ref a), some (.ref f), o5, o6])
        ⟨none, none, by omega, (fun q hq => by rw [List.take_zero] at hq; exact nomatch hq), rfl, rfl⟩ (fun n ts1 m1 ⟨_, _, _, _, e, _⟩ => ⟨0, by rw [e]; rfl⟩) ?_ ?_)
      · rintro n dt ts1 m1 hn ⟨o5, o6, nl, hg, rfl, rfl⟩
        obtain ⟨s, w, e, rfl⟩ := kn_at hn
        have il : n < kn.length := (List.getElem?_eq_some_iff.mp e).1
        have hmem := List.mem_of_getElem? e
        obtain ⟨q, hq, sq⟩ := KN.val _ hmem
        have hq : w = frD q := hq
        have hi2 : ((f, D.lk o ws kn) :: m)[i + 1]? = some (a, .dic kvs) := by rw [List.getElem?_cons_succ]; exact hi
        refine ⟨_, _, gt_two, ?_⟩
        show ExS G.K E _ [some (coinD G u d), some j, some k, some (.ref a), some (.ref f), some (kD s), some w] _ _
        have c1 : ∀ {w' : D}, valD kvs s = some w' → EvT G.K (tB (tDNotIn (tVar 5) (tVar 3))) [some (coinD G u d), some j, some k, some (.ref a), some (.ref f), some (kD s), some w] ((f, .lk o ws kn) :: m) false := fun hv' => et_B (EvD.is (ev_dnotin (i := i + 1) (ev_var rfl) (ev_var rfl) hi2) (by rw [hv']; rfl))
        have c2 : ∀ {w' : D}, valD kvs s = some w' → FrOk w' → EvT G.K (tNot (tB (tCall (SpD G.K (R_is_fraction G)) [] E (tCons (tDGet (tVar 3) (tVar 5)) tNil)))) [some (coinD G u d), some j, some k, some (.ref a), some (.ref f), some (kD s), some w] ((f, .lk o ws kn) :: m) (!isFracD w') := fun {w'} hv' hf' => et_not (et_B (ev_call (ds := [w']) (ea_cons (ev_dget (i := i + 1) (ev_var rfl) (ev_var rfl) hi2 hv') ea_nil) ⟨w', rfl, hf', rfl, rfl⟩))
        have c3 : ∀ {q' : Rat}, valD kvs s = some (frD q') → EvT G.K (tTest (tOp (rNeD G.K) (tDGet (tVar 3) (tVar 5)) (tVar 6))) [some (coinD G u d), some j, some k, some (.ref a), some (.ref f), some (kD s), some w] ((f, .lk o ws kn) :: m) (!decide (q' = q)) := fun {q'} hv' => t_neF (ev_dget (i := i + 1) (ev_var rfl) (ev_var rfl) hi2 hv') (ev_var (by rw [hq]; rfl))
        by_cases g : valD kvs s = some w
        · have g' := g
          rw [hq] at g'
          refine s_if0 (et_or0 (c1 g) (et_or0 (EvT.is (c2 g' (frok_fr sq (by decide))) (by rw [isFrac_fr]; rfl)) (EvT.is (c3 g') (by rw [decide_eq_true rfl]; rfl)))) (s_next ?_)
          refine ⟨_, _, by omega, fun q hq => ?_, rfl, rfl⟩
          rw [take_snoc e, List.mem_append, List.mem_singleton] at hq
          rcases hq with hq | rfl
          · exact hg q hq
          · exact g
        · cases hs with
          | len hx => exact absurd hlen hx
          | good _ hx _ => exact absurd (hx _ hmem) g
          | bad s' d0 d1 _ hm' hoth hval hfr hbad =>
            have es : s = s' := by
              by_cases c : s = s'
              · exact c
              · exact absurd (hoth _ hmem c) g
            subst es
            have ed : d0 = w := by
              have a1 := valD_mem KN.nd hm'
              have a2 := valD_mem KN.nd hmem
              rw [a1] at a2
              exact Option.some.inj a2
            subst ed
            have fin : ∀ {PO : Oc → Prop}, PO (.rt (.bl false) ((f, .lk o ws kn) :: m)) → ExS G.K E (tRet (tC (.bl false))) [some (coinD G u d), some j, some k, some (.ref a), some (.ref f), some (kD s), some d0] ((f, .lk o ws kn) :: m) PO := fun p => s_ret ev_bl p
            rcases hbad with hb | ⟨q1, q0, e1, e0, hne⟩
            · exact s_if1 (et_or0 (c1 hval) (et_or1 (EvT.is (c2 hval hfr) (by rw [hb]; rfl)))) (fin ⟨0, rfl, back p⟩)
            · subst e1
              have : q0 = q := by
                exact frD_inj (e0.symm.trans hq)
              subst this
              exact s_if1 (et_or0 (c1 hval) (et_or0 (EvT.is (c2 hval hfr) (by rw [isFrac_fr]; rfl)) (EvT.is (c3 hval) (by rw [decide_eq_false hne]; rfl)))) (fin ⟨0, rfl, back p⟩)
      · rintro ts1 m1 ⟨o5, o6, nl, hg, rfl, rfl⟩
        rw [List.length_map, List.take_length] at hg
        refine ⟨0, rfl, ?_⟩
        show ExS G.K E _ _ ((f, .dic kn) :: m) _
        cases hs with
        | len hx => exact absurd hlen hx
        | bad s' d0 d1 _ hm' hoth hval hfr hbad =>
          exfalso
          have g := hg _ hm'
          have g : valD kvs s' = some d0 := g
          rw [hval] at g
          cases g
          obtain ⟨q, hq, sq⟩ := KN.val _ hm'
          have hq : d0 = frD q := hq
          rcases hbad with hb | ⟨q1, q0, e1, e0, hne⟩
          · rw [hq, isFrac_fr] at hb; cases hb
          · exact hne (frD_inj (e1.symm.trans e0))
        | good _ _ hkeys =>
          refine s_retP (ev_cbP (ea_consP (ev_lock (k := i + 1) (a := a) (kvs := kvs) hi1 fun o2 ws2 => ?_)))
          have hset : ∀ y : Addr × D, (m.set i y)[i]? = some y := fun y => List.getElem?_set_self (List.getElem?_eq_some_iff.mp hi).1
          show EvP G.K _ _ ((f, .dic kn) :: m.set i (a, .lk o2 ws2 kvs)) _
          refine ev_lcI (wk_keys (k := i + 1) (a := a) (o := o2) (ws := ws2) (kvs := kvs) (ev_var rfl) (by rw [List.getElem?_cons_succ]; exact hset _)) (fun n acc m1 => acc = ((kvs.take n).map fun _ => D.bl true) ∧ m1 = (f, .dic kn) :: m.set i (a, .lk o2 ws2 kvs)) ⟨rfl, rfl⟩ (by rw [List.length_map]; omega)
            (fun n acc m1 l d ⟨_, e⟩ => ⟨i + 2, by rw [List.getElem?_cons_succ, e, List.getElem?_cons_succ]; exact hset _⟩) (fun n acc m1 ⟨e, _⟩ => by rw [e, List.length_map, List.length_take]; omega) ?_ ?_
          · rintro n d' acc m1 l hd ⟨rfl, rfl⟩ hl'
            rw [List.getElem?_map] at hd
            cases e : kvs[n]? with
            | none => rw [e] at hd; cases hd
            | some q =>
              rw [e] at hd
              cases hd
              obtain ⟨z, hz⟩ := hkeys q (List.mem_of_getElem? e)
              refine ⟨_, gt_nm, et_yes.p ?_⟩
              rw [if_pos rfl]
              refine EvD.p (d := .bl true) (ev_call (ds := [.int z]) (ea_cons (ev_var (by show some (some (kD q.1)) = _; rw [hz]; rfl)) ea_nil) ⟨.int z, rfl, rfl, rfl, rfl⟩) ⟨_, rfl, ?_, rfl⟩
              rw [take_snoc e, List.map_append]; rfl
          · rintro acc m1 ⟨rfl, rfl⟩
            rw [List.length_map, List.take_length]
            refine ⟨i + 1, by rw [List.getElem?_cons_succ]; exact hset _, ?_⟩
            show EvA G.K _ _ ((f, .dic kn) :: (m.set i (a, .lk o2 ws2 kvs)).set i (a, .dic kvs)) _
            rw [List.set_set, show m.set i (a, D.dic kvs) = m from by
              apply List.ext_getElem?
              intro z
              by_cases c : z = i
              · subst c; rw [List.getElem?_set_self (List.getElem?_eq_some_iff.mp hi).1, hi]
              · rw [List.getElem?_set_ne (fun y => c y.symm)]]
            refine ea_nilP ⟨.bl true, ?_, back p⟩
            have c := cb_all (K := G.K) (m := (f, .dic kn) :: m) (bs := kvs.map fun _ => true)
            rw [List.map_map, show (List.map (fun _ : Key × D => true) kvs).all id = true from by rw [List.all_eq_true]; intro x hx; obtain ⟨_, _, rfl⟩ := List.mem_map.mp hx; rfl] at c
            exact c
    · have hb : b = false := by
        cases hs with
        | len _ => rfl
        | good hx _ _ => exact absurd hx hlen
        | bad _ _ _ hx _ _ _ _ _ => rfl
      subst hb
      exact s_seq (s_if1 (et_or0 t1 (EvT.is t2 (by rw [decide_eq_false (by omega)]; rfl))) (s_ret ev_bl (back p)))
  · have hi1 : ((f, D.dic kn) :: m)[i + 1]? = some (a, .xt (OddD a n)) := by rw [List.getElem?_cons_succ]; exact hi
    refine s_seq (s_if1 (et_or0 (EvT.is (et_not (et_B (ev_cb (by walk_at "ra") (cb_isiOdd (k := i + 1) hi1)))) rfl)
      (EvT.is (et_test (ev_ne (d1 := .int n) (d2 := .int kn.length) (ev_cb (by walk_at "ra") (cb_lenOdd (k := i + 1) hn hi1)) (ev_cb (by walk_at "ra") (cb_lenDic (k := 0) rfl)) rfl)) (by rw [decide_eq_false (by omega)]; rfl))) (s_ret ev_bl (back p)))
theorem flat_lst (xs : List D) : Flat (.lst xs) := rfl
theorem frok_oth {d : D} (hf : Flat d) (h : ∀ a b, d ≠ .tup [a, b]) : FrOk d := ⟨hf, fun a b e => absurd e (h a b)⟩
theorem dbl_frac (q : Rat) : isFracD (.tup [.int (2 * q.num), .int (2 * (q.den : Int))]) = false := by
  show (decide (0 < 2 * (q.den : Int)) && decide (Int.gcd (2 * q.num) (2 * (q.den : Int)) = 1)) = false
  rw [Int.gcd_mul_left]
  have : decide ((2 : Int).natAbs * Int.gcd q.num (q.den : Int) = 1) = false := decide_eq_false (by
    have : (2 : Int).natAbs = 2 := rfl
    rw [this]; omega)
  rw [this, Bool.and_false]
theorem dbl_ok {q : Rat} {n : Nat} (h : Sz n q) (hn : n + 2 ≤ 9000) : FrOk (.tup [.int (2 * q.num), .int (2 * (q.den : Int))]) := ⟨rfl, fun a b e => by
  simp only [D.tup.injEq, List.cons.injEq, and_true] at e
  obtain ⟨rfl, rfl⟩ := e
  have two : ∀ {z : Int}, z.natAbs < 2 ^ n → small9 (2 * z) := fun {z} hz => by
    unfold small9
    rw [Int.natAbs_mul]
    have := mul_lt_two (a := (2 : Int).natAbs) (b := z.natAbs) (n := 2) (m := n) (by decide) hz
    exact Nat.lt_of_lt_of_le this (Nat.pow_le_pow_right (by decide) (by omega))
  refine ⟨rfl, rfl, fun i e => ?_, fun i e => ?_⟩
  · cases e; exact two h.num
  · cases e; exact two (den_lt h)⟩
/-- what is no fraction, put in its place -/
def oddL (q : Rat) : List D := [.non, .int 1, .lst [.int q.num, .int (q.den : Int)], .str "1", .tup [.int 1], .tup ([.int q.num, .int (q.den : Int)] ++ [.int 1])]
theorem oddl {q : Rat} {x : Int} (h0 : 0 ≤ x) (h : x < 6) : ∃ d, atI (oddL q) x = some d ∧ FrOk d ∧ isFracD d = false := by
  rcases (by omega : x = 0 ∨ x = 1 ∨ x = 2 ∨ x = 3 ∨ x = 4 ∨ x = 5) with rfl | rfl | rfl | rfl | rfl | rfl
  · exact ⟨_, rfl, frok_oth rfl (fun _ _ z => nomatch z), rfl⟩
  · exact ⟨_, rfl, frok_oth rfl (fun _ _ z => nomatch z), rfl⟩
  · exact ⟨_, rfl, frok_oth rfl (fun _ _ z => nomatch z), rfl⟩
  · exact ⟨_, rfl, frok_oth rfl (fun _ _ z => nomatch z), rfl⟩
  · exact ⟨_, rfl, frok_oth rfl (fun _ _ z => by simp at z), rfl⟩
  · exact ⟨_, rfl, frok_oth rfl (fun _ _ z => by simp at z), rfl⟩
theorem drop_len {kn : List (Key × D)} {s : Key} {d : D} (h : (s, d) ∈ kn) : (dropKD kn s).length < kn.length := by
  unfold dropKD
  exact List.length_filter_lt_length_iff_exists.mpr ⟨(s, d), h, by simp⟩
theorem kn_keys {kn : List (Key × D)} (K : Known kn) {s : Key} (h : ∀ i : Int, s = .inl i → i = 99) : valD kn s = none := by
  cases q : valD kn s with
  | none => rfl
  | some d =>
    exfalso
    have a : (kn.any fun kv => decide (kv.1 = s)) = true := by rw [valD_any, q]; rfl
    obtain ⟨z, hz, e⟩ := List.any_eq_true.mp a
    have e := of_decide_eq_true e
    obtain ⟨i, hi, i1, i2⟩ := K.key z hz
    have := h i (e.symm.trans hi)
    omega
theorem p__law_bent (h : R__law_bent G ds m P) : ExS G.K E (t__law_bent G E) (startT n__law_bent ds) m (Fin P) := by
  obtain ⟨l, x, r, kn, i1, i2, rfl, hk1, hr, hk2, ne, KN, p⟩ := h
  show ExS G.K E (t__law_bent G E) [some (.ref l), some (.ref x), none, none, none, none] m (Fin P)
  have l1 : i1 < m.length := (List.getElem?_eq_some_iff.mp hk1).1
  have s1 : ∀ y : Addr × D, (m.set i1 y)[i1]? = some y := fun y => List.getElem?_set_self l1
  have s2 : ∀ y : Addr × D, (m.set i1 y)[i2]? = some (x, .dic kn) := fun y => by rw [List.getElem?_set_ne ne]; exact hk2
  have kl := KN.len
  refine s_seq (s_parP (ea_consP (ev_opP (EvD.p (d := .lst (kn.map fun p => kD p.1)) (ev_cb (ea_cons (ev_var rfl) ea_nil) (cb_listD (k := i2) hk2)) (ev_taken (r := r) (k := i1) (many := kn.length) (ea_cons (ev_var rfl) (ea_cons (ev_cb (ea_cons (ev_var rfl) ea_nil) (cb_lenDic (k := i2) hk2)) ea_nil)) (by omega) (by omega) hk1 hr fun y1 r1 y0 y9 hr1 => ?_)))))
  obtain ⟨n, rfl⟩ := Int.eq_ofNat_of_zero_le y0
  have hn : n < kn.length := by omega
  obtain ⟨s, d0, e⟩ : ∃ s d0, kn[n]? = some (s, d0) := ⟨kn[n].1, kn[n].2, List.getElem?_eq_getElem hn⟩
  have hmem := List.mem_of_getElem? e
  obtain ⟨q, hq, sq⟩ := KN.val _ hmem
  have hq : d0 = frD q := hq
  refine ⟨kD s, od_ixL (atI_nat (by rw [List.getElem?_map, e]; rfl)), ?_⟩
  refine ea_consP (ev_taken (r := r1) (k := i1) (by walk_at "ra") (by decide) (by decide) (s1 _) hr1 fun kd r2 k0 k9 hr2 => ea_nilP ⟨_, _, rfl, ?_⟩)
  rw [List.set_set]
  show ExS G.K E _ [some (.ref l), some (.ref x), some (kD s), some (.int kd), none, none] (m.set i1 (l, r2)) _
  have hv := valD_mem KN.nd hmem
  refine s_seq (s_parP (ea_consP (ev_dictC (i := i2) (ev_var rfl) (s2 _) fun f hf => ea_consP (EvD.p (ev_dget (i := i2 + 1) (k := s) (d := d0) (ev_var rfl) (ev_var rfl) (by rw [List.getElem?_cons_succ]; exact s2 _) hv) (ea_nilP ⟨_, _, rfl, ?_⟩)))))
  subst hq
  show ExS G.K E _ [some (.ref l), some (.ref x), some (kD s), some (.int kd), some (.ref f), some (frD q)] ((f, .dic kn) :: m.set i1 (l, r2)) _
  have row : ((f, D.dic kn) :: m.set i1 (l, r2))[i1 + 1]? = some (l, r2) := by rw [List.getElem?_cons_succ]; exact s1 _
  have hk3 : ∀ r3 : D, ((f, D.dic kn) :: m.set i1 (l, r2)).set (i1 + 1) (l, r3) = (f, .dic kn) :: m.set i1 (l, r3) := fun r3 => by show _ :: (m.set i1 (l, r2)).set i1 (l, r3) = _; rw [List.set_set]
  have done : ∀ {r' c : D}, RowOk r' → BentC kn f c → ExS G.K E (tRet (tVar 4)) [some (.ref l), some (.ref x), some (kD s), some (.int kd), some (.ref f), some (frD q)] ((f, c) :: m.set i1 (l, r')) (Fin P) := fun hr' hc => s_ret (ev_var rfl) (p f _ _ hr' hc)
  have put : ∀ {d : D}, FrOk d → (isFracD d = false ∨ ∃ q1 q0, d = frD q1 ∧ frD q = frD q0 ∧ q1 ≠ q0) → BentC kn f (.dic (putKD kn s d)) := fun hd hb => .inl ⟨_, rfl, by rw [putKD_len hv]; omega, bent_put KN hmem hd hb⟩
  have tk : ∀ i : Int, EvT G.K (tTest (tOp rEq (tVar 3) (tC (.int i)))) [some (.ref l), some (.ref x), some (kD s), some (.int kd), some (.ref f), some (frD q)] ((f, .dic kn) :: m.set i1 (l, r2)) (decide (kd = i)) := fun i => et_test (ev_eq (d1 := .int kd) (d2 := .int i) (ev_var rfl) ev_int rfl)
  have knl : kn.length < 100000 := by omega
  have sm : ∀ {z : Int}, z.natAbs < 2 ^ 2300 → CMulW 2 z := fun hz => cmulW (n := 2) (m := 2300) (by decide) hz (by decide)
  refine s_seq (s_if (tk 0) (fun c => ?_) (fun c0 => s_if (tk 1) (fun c => ?_) (fun c1 => s_if (tk 2) (fun c => ?_) (fun c2 => s_if (tk 3) (fun c => ?_) (fun c3 => ?_)))))
  · have e17 : D.tup [.int 1, .int 7] = frD (1 / 7) := (fr_isK06 (b := 7) (by decide +kernel)).symm
    refine s_dputX (i := 0) (kvs := kn) (k := s) (d := frD (q + 1 / 7)) (e_lsum (ea_cons (ev_var rfl) (ea_cons (EvD.is (d := .tup [.int 1, .int 7]) (by walk_at "ra") e17) ea_nil)) sq (show Sz 4 (1 / 7) from ⟨by decide +kernel, by decide +kernel⟩)) (ev_var rfl) (ev_var rfl) rfl knl ?_
    exact done hr2 (put (frok_fr (sq.add (show Sz 4 (1 / 7) from ⟨by decide +kernel, by decide +kernel⟩)) (by decide)) (.inr ⟨q + 1 / 7, q, rfl, rfl, fun z => absurd (show (1 : Rat) / 7 = 0 by grind) (by decide +kernel)⟩))
  · refine s_dputX (i := 0) (kvs := kn) (k := s) (d := .tup [.int (2 * q.num), .int (2 * (q.den : Int))]) (ev_tup (ea_cons (ev_opI (f := fun i j => i * j) ev_int (ev_ixT (ds := [.int q.num, .int q.den]) (ev_var rfl) ev_int rfl) (sm sq.num)) (ea_cons (ev_opI (f := fun i j => i * j) ev_int (ev_ixT (ds := [.int q.num, .int q.den]) (ev_var rfl) ev_int rfl) (sm (den_lt sq))) ea_nil)) (by simp)) (ev_var rfl) (ev_var rfl) rfl knl ?_
    exact done hr2 (put (dbl_ok sq (by decide)) (.inl (dbl_frac q)))
  · refine s_dputXP (i := 0) (kvs := kn) (k := s) (ev_opP (EvD.p (d := .lst (oddL q)) (ev_lst (ds := oddL q) (ea_cons ev_non (ea_cons ev_int (ea_cons (ev_cb (ea_cons (ev_var rfl) ea_nil) (cb_listT (ds := [.int q.num, .int (q.den : Int)]))) (ea_cons ev_str (ea_cons (ev_tup (ea_cons ev_int ea_nil) (by simp)) (ea_cons (ev_catA (ds := [.int q.num, .int (q.den : Int)]) (es := [.int 1]) (ev_var rfl) (ev_tup (ea_cons ev_int ea_nil) (by simp)) (by simp)) ea_nil)))))) (by simp [oddL]))
      (ev_taken (r := r2) (k := i1 + 1) (by walk_at "ra") (by decide) (by decide) row hr2 fun y r3 y0 y9 hr3 => ?_)))
    obtain ⟨d, ed, fd, nd⟩ := oddl (q := q) y0 y9
    refine ⟨d, od_ixL ed, f, rfl, rfl, fun _ => ev_var rfl, fun _ => ev_var rfl, knl, ?_⟩
    rw [hk3 r3]
    exact done hr3 (put fd (.inl nd))
  · refine s_dpop (i := 0) (kvs := kn) (k := s) (ev_var rfl) (ev_var rfl) rfl hv ?_
    have := drop_len hmem
    exact done hr2 (.inl ⟨_, rfl, by omega, .len (by omega)⟩)
  · have c0 := of_decide_eq_false c0
    have c1 := of_decide_eq_false c1
    have c2 := of_decide_eq_false c2
    have c3 := of_decide_eq_false c3
    refine s_dputK (i := 0) (a := f) (kvs := kn) (dv := frD q) (ev_var rfl) (ev_var rfl) (ev_opP (EvD.p (d := .lst [.str "0", .int 99, .non, .tk [.inl 0]]) (ev_lst (ea_cons ev_str (ea_cons ev_int (ea_cons ev_non (ea_cons (ev_tupK (k := [.inl 0]) (ea_cons ev_int ea_nil) (by simp)) ea_nil)))) (by simp))
      (ev_taken (r := r2) (k := i1 + 1) (by walk_at "ra") (by decide) (by decide) row hr2 fun y r3 y0 y9 hr3 => ?_)))
    have lt1 : kn.length + 1 ≤ 1000 := by omega
    have new : ∀ {s' : Key}, valD kn s' = none → BentC kn f (.dic (putKD kn s' (frD q))) := fun {s'} hn => by
      have e := putKD_new (frD q) hn
      have el : (putKD kn s' (frD q)).length = kn.length + 1 := by rw [e, List.length_append]; rfl
      exact .inl ⟨_, rfl, by omega, .len (by omega)⟩
    rw [hk3 r3]
    have ky : ∀ p ∈ kn, ∃ i : Int, p.1 = .inl i ∧ -100 ≤ i ∧ i ≤ 100 := fun p hp => let ⟨i, a, b, c⟩ := KN.key p hp; ⟨i, a, b, by omega⟩
    rcases (by omega : y = 0 ∨ y = 1 ∨ y = 2 ∨ y = 3) with rfl | rfl | rfl | rfl
    · exact ⟨.str "0", od_ixL rfl, rfl, knl, .inl ⟨.inr "0", rfl, done hr3 (new (kn_keys KN fun i z => nomatch z))⟩⟩
    · exact ⟨.int 99, od_ixL rfl, rfl, knl, .inl ⟨.inl 99, rfl, done hr3 (new (kn_keys KN fun i z => (Sum.inl.inj z).symm))⟩⟩
    · exact ⟨.non, od_ixL rfl, rfl, knl, .inr ⟨.inl rfl, ky, done hr3 (.inr ⟨_, rfl, by omega, by omega⟩)⟩⟩
    · exact ⟨.tk [.inl 0], od_ixL rfl, rfl, knl, .inr ⟨.inr rfl, ky, done hr3 (.inr ⟨_, rfl, by omega, by omega⟩)⟩⟩
theorem p__law_refused_k06 (hx : PySem.W.exmOne G.K (.ref G.cBadRun) (.ref G.cBadRun) = some true) (h : R__law_refused_k06 G ds m P) : ExS G.K E (t__law_refused_k06 G E) (startT n__law_refused_k06 ds) m (Fin P) := by
  obtain ⟨u, d, j, k, kind, b, rfl, hu, hd, fj, fk, kd0, kd2, hb, p⟩ := h
  show ExS G.K E (t__law_refused_k06 G E) [some (coinD G u d), some j, some k, some (.int kind), none, none] m (Fin P)
  refine ExS.sub ?_
  refine s_seq (s_asg (d := .non) (by walk_at "ra") ?_)
  show ExS G.K E _ [some (coinD G u d), some j, some k, some (.int kind), some .non, none] m _
  refine s_seq (s_tryE (tb := tb0__law_refused_k06 G) (fun _ _ _ _ h => h) fun E' => s_if (b := decide (kind = 0)) (et_test (ev_eq (d1 := .int kind) (d2 := .int 0) (by walk_at "ra") ev_int rfl)) (fun c => ?_) (fun c => ?_))
  · refine s_dropX (ev_callX (ea_consP (EvD.p (ev_var rfl) (ea_consP (EvD.p (ev_var rfl) (ea_consP (EvD.p (ev_var rfl) (ea_consP (ev_dnew fun e he => ea_nilP ⟨u, d, j, k, .ref e, rfl, hu, hd, fj, fk, fun cj => ?_, fun cj ck => ?_, fun cj ck => ?_⟩)))))))))
    · rcases hb with ⟨_, rfl⟩ | ⟨c, _⟩
      · exact catch_val hx (fun _ => rfl) (fun _ _ => rfl) (s_ret (ev_var rfl) ⟨m, .cons _ (List.Sublist.refl _), p⟩)
      · rw [cj] at c; cases c
    · rcases hb with ⟨c, _⟩ | ⟨_, _, rfl⟩
      · rw [cj] at c; cases c
      · exact catch_val hx (fun _ => rfl) (fun _ _ => rfl) (s_ret (ev_var rfl) ⟨m, .cons _ (List.Sublist.refl _), p⟩)
    · rcases hb with ⟨c, _⟩ | ⟨_, c, _⟩
      · rw [cj] at c; cases c
      · rw [ck] at c; cases c
  · refine s_dropX (ev_callX (EvL.p (ds := [coinD G u d, j, k]) (by walk_at "ra") ⟨u, d, j, k, rfl, hu, hd, fj, fk, fun cj ck => ?_, fun cj ck => ?_, fun cj => ?_⟩))
    · rcases hb with ⟨c, _⟩ | ⟨_, c, _⟩
      · rw [cj] at c; cases c
      · rw [ck] at c; cases c
    · rcases hb with ⟨c, _⟩ | ⟨_, _, rfl⟩
      · rw [cj] at c; cases c
      · exact catch_val hx (fun _ => rfl) (fun _ _ => rfl) (s_ret (ev_var rfl) ⟨m, List.Sublist.refl _, p⟩)
    · rcases hb with ⟨_, rfl⟩ | ⟨c, _⟩
      · exact catch_val hx (fun _ => rfl) (fun _ _ => rfl) (s_ret (ev_var rfl) ⟨m, List.Sublist.refl _, p⟩)
      · rw [cj] at c; cases c
theorem e_shows {u d j k : Int} {v : D} {b : Bool} (h : EvL G.K tl ts m [coinD G u d, .int j, .int k, v]) (hu : Share u) (hd : Share d) (rj : Run j) (rk : Run k) (hv : ShowV (chancesKv u d j k) m v b) : EvD G.K (tCall (SpD G.K (R_shows G)) [] E tl) ts m (.bl b) :=
  ev_call h ⟨u, d, .int j, .int k, v, rfl, hu, hd, rfl, rfl, fun z => absurd z (by rw [within_run rj]; decide), fun _ z => absurd z (by rw [within_run rk]; decide), fun _ _ => ⟨b, hv, rfl, rfl⟩⟩
theorem bent_v {kn : List (Key × D)} {f : Addr} {c : D} {m : Mem} (h : BentC kn f c) : ShowV kn ((f, c) :: m) (.ref f) false := by
  rcases h with ⟨kvs, rfl, hl, hs⟩ | ⟨n, rfl, hn, hne⟩
  · exact .inr (.inl ⟨0, f, kvs, rfl, rfl, hl, hs⟩)
  · exact .inr (.inr ⟨0, f, n, rfl, rfl, hn, hne, rfl⟩)
theorem eb_BP {K : PySem.W.Frag} {PB : Bool → Mem → Prop} (h : EvP K te ts m fun d m' => ∃ b, d = .bl b ∧ PB b m') : EvB K (tB te) ts m PB := et_testP h
theorem eb_or0Q {t u : TT} {PB : Bool → Mem → Prop} {K : PySem.W.Frag} (h : EvB K t ts m fun b m1 => b = false ∧ EvB K u ts m1 PB) : EvB K (tOr t u) ts m PB := fun σ H M S Q q =>
  h σ H M S _ fun x H1 m1 ⟨e1, hb⟩ M1 x1 => by
    subst e1
    rw [if_neg Bool.false_ne_true]
    exact hb σ H1 M1 (S.mono x1) Q fun b H2 m2 p M2 x2 => q b H2 m2 p M2 (x1.trans x2)
/-- shows(coin, j, k, bent(row, known)) -/
theorem e_bent {u d j k : Int} {l x : Addr} {r : D} {i1 i2 : Nat} {PB : Bool → Mem → Prop} (h4 : ∀ m', EvD G.K (tVar 4) ts m' (coinD G u d)) (h5 : ∀ m', EvD G.K (tVar 5) ts m' (.int j)) (h6 : ∀ m', EvD G.K (tVar 6) ts m' (.int k)) (h1 : ∀ m', EvD G.K (tVar 1) ts m' (.ref l)) (h7 : ∀ m', EvD G.K (tVar 7) ts m' (.ref x))
    (hu : Share u) (hd : Share d) (rj : Run j) (rk : Run k) (hk1 : m[i1]? = some (l, r)) (hr : RowOk r) (hk2 : m[i2]? = some (x, .dic (chancesKv u d j k))) (ne : i1 ≠ i2) (p : ∀ f r' c, RowOk r' → PB false ((f, c) :: m.set i1 (l, r'))) :
    EvB G.K (tB (tCall (SpD G.K (R_shows G)) [] E (tCons (tVar 4) (tCons (tVar 5) (tCons (tVar 6) (tCons (tCall (SpD G.K (R__law_bent G)) [] E (tCons (tVar 1) (tCons (tVar 7) tNil))) tNil)))))) ts m PB := by
  refine eb_BP (ev_callP (ea_consP (EvD.p (h4 _) (ea_consP (EvD.p (h5 _) (ea_consP (EvD.p (h6 _) (ea_consP (ev_callP (EvL.p (ds := [.ref l, .ref x]) (ea_cons (h1 _) (ea_cons (h7 _) ea_nil)) ⟨l, x, r, _, i1, i2, rfl, hk1, hr, hk2, ne, known_ch hu hd rj rk, fun f r' c hr' hc => ea_nilP ?_⟩))))))))))
  exact ⟨u, d, .int j, .int k, .ref f, rfl, hu, hd, rfl, rfl, fun z => absurd z (by rw [within_run rj]; decide), fun _ z => absurd z (by rw [within_run rk]; decide), fun _ _ => ⟨false, bent_v hc, ⟨false, rfl, p f r' c hr'⟩⟩⟩
def keyOf : D → Key
  | .int i => .inl i
  | .str x => .inr x
  | _ => .inl 0
theorem keyOf_kD (k : Key) : keyOf (kD k) = k := by cases k <;> rfl
theorem turned_lc {kn : List (Key × D)} (K : Known kn) : lcD ((kn.map fun p => kD p.1).reverse) (fun _ => true) (fun d => .tup [d, (valD kn (keyOf d)).getD .non]) = itemsD kn.reverse := by
  unfold lcD itemsD
  rw [List.filter_eq_self.mpr (fun _ _ => rfl), List.map_reverse, List.map_reverse, List.map_map]
  congr 1
  apply List.map_congr_left
  intro p hp
  show D.tup [kD p.1, (valD kn (keyOf (kD p.1))).getD .non] = _
  rw [keyOf_kD, valD_mem K.nd (s := p.1) (d := p.2) hp]; rfl
set_option maxHeartbeats 4000000 in
theorem p_law_k06 (h : R_law G ds m P) : ExS G.K E (t_law_k06 G E) (startT n_law_k06 ds) m (Fin P) := by
  obtain ⟨ns, rfl, rfl, hn, p⟩ := h
  show ExS G.K E (t_law_k06 G E) [some (.lst (ns.map .int)), none, none, none, none, none, none, none, none, none, none, none, none] [] (Fin P)
  refine s_seq (s_asgP (ev_lstM (EvL.p (ds := [.lst (ns.map .int), .int 0, .int 226, .int 0]) (by walk_at "ra") ⟨by simp, fun l _ => ?_⟩)))
  show ExS G.K E _ [some (.lst (ns.map .int)), some (.ref l), none, none, none, none, none, none, none, none, none, none, none] [(l, rowD ns 0 226 0)] (Fin P)
  refine s_seq (s_parP (ea_consP (ev_callP (EvL.p (ds := [.ref l]) (by walk_at "ra") ⟨l, rfl, 0, _, rfl, row0 hn (by decide), fun u d r1 hab hr1 => ?_⟩))))
  refine ea_consP (ev_callP (EvL.p (ds := [.ref l, .int 12]) (by walk_at "ra") ⟨l, 12, rfl, by decide, by decide, 0, r1, rfl, hr1, fun j k r2 j1 j2 k1 k2 hr2 => ?_⟩))
  refine ea_nilP ⟨_, _, rfl, ?_⟩
  obtain ⟨su, sd⟩ := drawn_share hab
  have rj : Run j := ⟨j1, by omega⟩
  have rk : Run k := ⟨k1, by omega⟩
  have KN := known_ch su sd rj rk
  have kl := KN.len
  show ExS G.K E _ [some (.lst (ns.map .int)), some (.ref l), some (.tup [.int u, .int d]), some (.lst [.int j, .int k]), none, none, none, none, none, none, none, none, none] [(l, r2)] _
  refine s_seq (s_par3P (EvL.p (ds := [coinD G u d, .int j, .int k]) (ea_cons (ev_coinD (by walk_at "ra") su sd) (ea_cons (ev_ixL (ev_var rfl) ev_int rfl) (ea_cons (ev_ixL (ev_var rfl) ev_int rfl) ea_nil))) ⟨_, _, _, rfl, ?_⟩))
  show ExS G.K E _ [some (.lst (ns.map .int)), some (.ref l), some (.tup [.int u, .int d]), some (.lst [.int j, .int k]), some (coinD G u d), some (.int j), some (.int k), none, none, none, none, none, none] [(l, r2)] _
  refine s_seq (s_asgP (ev_callP (EvL.p (ds := [coinD G u d, .int j, .int k]) (by walk_at "ra") ⟨u, d, .int j, .int k, rfl, su, sd, rfl, rfl, fun _ _ x hx => ?_, fun _ z => (by rw [within_run rk] at z; cases z), fun z => (by rw [within_run rj] at z; cases z)⟩)))
  have vK : ∀ {M : Mem} {v : D} {b : Bool}, ShowV (chancesKv u d j k) M v b → ShowV (chancesKv u d j k) M v b := fun h => h
  show ExS G.K E _ [some (.lst (ns.map .int)), some (.ref l), some (.tup [.int u, .int d]), some (.lst [.int j, .int k]), some (coinD G u d), some (.int j), some (.int k), some (.ref x), none, none, none, none, none] [(x, .dic (chancesKv u d j k)), (l, r2)] _
  refine s_seq (s_asgP (ev_dictP (kvs := (chancesKv u d j k).reverse) (ea_cons (EvD.is (ev_lc (ds := ((chancesKv u d j k).map fun p => kD p.1).reverse) (wk_list (ev_revL (ev_cb (ea_cons (ev_var rfl) ea_nil) (cb_listD (k := 0) rfl)))) (fun _ => true) (fun d' => .tup [d', (valD (chancesKv u d j k) (keyOf d')).getD .non]) (by rw [List.length_reverse, List.length_map]; omega) (fun d' l' acc hd => ?_)) (congrArg D.lst (turned_lc KN))) ea_nil) fun t ht => ?_))
  · rw [List.mem_reverse] at hd
    obtain ⟨q, hq, rfl⟩ := List.mem_map.mp hd
    have hv := valD_mem KN.nd (s := q.1) (d := q.2) hq
    refine ⟨_, gt_nm, et_yes, fun _ => ?_⟩
    rw [keyOf_kD, hv]
    exact ev_tup (ea_cons (ev_var rfl) (ea_cons (ev_dget (i := 1) (k := q.1) (d := q.2) (ev_var rfl) (ev_var rfl) rfl hv) ea_nil)) (by simp)
  have nr : (((chancesKv u d j k).reverse).map (·.1)).Nodup := by rw [List.map_reverse, List.nodup_iff_pairwise_ne, List.pairwise_reverse]; exact (List.nodup_iff_pairwise_ne.mp KN.nd).imp fun h z => h z.symm
  rw [merge_nodup (acc := []) (by rw [List.nil_append]; exact nr), List.nil_append]
  have ky : ∀ q ∈ chancesKv u d j k, ∃ i : Int, q.1 = .inl i := fun q hq => let ⟨i, a, _⟩ := KN.key q hq; ⟨i, a⟩
  have g1 : ShowsIs (chancesKv u d j k) (chancesKv u d j k) true := .good rfl (fun q hq => valD_mem KN.nd hq) ky
  have g2 : ShowsIs (chancesKv u d j k) (chancesKv u d j k).reverse true := .good (by rw [List.length_reverse]) (fun q hq => valD_mem nr (List.mem_reverse.mpr hq)) fun q hq => ky q (List.mem_reverse.mp hq)
  have rl : (chancesKv u d j k).reverse.length ≤ 1000 := by rw [List.length_reverse]; omega
  generalize hr : (chancesKv u d j k).reverse = rv at *
  show ExS G.K E _ [some (.lst (ns.map .int)), some (.ref l), some (.tup [.int u, .int d]), some (.lst [.int j, .int k]), some (coinD G u d), some (.int j), some (.int k), some (.ref x), some (.ref t), none, none, none, none] [(t, .dic rv), (x, .dic (chancesKv u d j k)), (l, r2)] _
  refine s_seq (s_if0 (et_or0 (EvT.is (et_not (et_B (e_shows (by walk_at "ra") su sd rj rk (.inr (.inl ⟨1, x, _, rfl, rfl, by omega, g1⟩))))) rfl) (EvT.is (et_not (et_B (e_shows (by walk_at "ra") su sd rj rk (.inr (.inl ⟨0, t, _, rfl, rfl, rl, g2⟩))))) rfl)) (s_next ?_))
  refine s_seq (s_ifP (eb_or0Q (e_bent (l := l) (x := x) (r := r2) (i1 := 2) (i2 := 1) (fun _ => ev_var rfl) (fun _ => ev_var rfl) (fun _ => ev_var rfl) (fun _ => ev_var rfl) (fun _ => ev_var rfl) su sd rj rk rfl hr2 rfl (by decide) fun f1 r3 c1 hr3 => ⟨rfl, ?_⟩)))
  refine e_bent (l := l) (x := x) (r := r3) (i1 := 3) (i2 := 2) (fun _ => ev_var rfl) (fun _ => ev_var rfl) (fun _ => ev_var rfl) (fun _ => ev_var rfl) (fun _ => ev_var rfl) su sd rj rk rfl hr3 rfl (by decide) fun f2 r4 c2 hr4 => ?_
  rw [if_neg Bool.false_ne_true]
  refine s_next ?_
  show ExS G.K E _ [some (.lst (ns.map .int)), some (.ref l), some (.tup [.int u, .int d]), some (.lst [.int j, .int k]), some (coinD G u d), some (.int j), some (.int k), some (.ref x), some (.ref t), none, none, none, none] [(f2, c2), (f1, c1), (t, .dic rv), (x, .dic (chancesKv u d j k)), (l, r4)] _
  refine s_seq (s_asgP (ev_lstP (ea_consP (EvD.p ev_non (ea_consP (EvD.p (ev_listItems (k := 3) (ev_var rfl) rfl) (ea_consP (EvD.p (ev_tup (ds := []) ea_nil (by simp)) (ea_consP (ev_dnew fun e he => EvL.p (ds := [.str "chances", .int 5]) (by walk_at "ra") ⟨?_, by simp⟩))))))))))
  show ExS G.K E _ [some (.lst (ns.map .int)), some (.ref l), some (.tup [.int u, .int d]), some (.lst [.int j, .int k]), some (coinD G u d), some (.int j), some (.int k), some (.ref x), some (.ref t), none, some (.lst [.non, .lst (itemsD (chancesKv u d j k)), .tup [], .ref e, .str "chances", .int 5]), none, none] [(e, .dic []), (f2, c2), (f1, c1), (t, .dic rv), (x, .dic (chancesKv u d j k)), (l, r4)] _
  refine s_seq (s_ifP (eb_BP (ev_callP (ea_consP (EvD.p (ev_var rfl) (ea_consP (EvD.p (ev_var rfl) (ea_consP (EvD.p (ev_var rfl) (ea_consP (ev_opP (EvD.p (d := .lst [.non, .lst (itemsD (chancesKv u d j k)), .tup [], .ref e, .str "chances", .int 5]) (ev_var rfl) (ev_taken (r := r4) (k := 5) (many := 6) (ea_cons (ev_var rfl) (ea_cons (EvD.is (ev_cb (ea_cons (ev_var rfl) ea_nil) (cb_lenL (ds := [.non, .lst (itemsD (chancesKv u d j k)), .tup [], .ref e, .str "chances", .int 5]))) rfl) ea_nil)) (by decide) (by decide) rfl hr4 fun y r5 y0 y6 hr5 => ?_)))))))))))))
  have odd : ∃ v, atI [D.non, .lst (itemsD (chancesKv u d j k)), .tup [], .ref e, .str "chances", .int 5] y = some v ∧ ShowV (chancesKv u d j k) [(e, .dic []), (f2, c2), (f1, c1), (t, .dic rv), (x, .dic (chancesKv u d j k)), (l, r5)] v false := by
    rcases (by omega : y = 0 ∨ y = 1 ∨ y = 2 ∨ y = 3 ∨ y = 4 ∨ y = 5) with rfl | rfl | rfl | rfl | rfl | rfl
    · exact ⟨_, rfl, .inl ⟨rfl, rfl⟩⟩
    · exact ⟨_, rfl, .inl ⟨rfl, rfl⟩⟩
    · exact ⟨_, rfl, .inl ⟨rfl, rfl⟩⟩
    · exact ⟨_, rfl, .inr (.inl ⟨0, e, [], rfl, rfl, by simp, .len (by simp only [List.length_nil]; omega)⟩)⟩
    · exact ⟨_, rfl, .inl ⟨rfl, rfl⟩⟩
    · exact ⟨_, rfl, .inl ⟨rfl, rfl⟩⟩
  obtain ⟨v, ev, hv⟩ := odd
  refine ⟨v, od_ixL ev, ea_nilP ⟨u, d, .int j, .int k, v, rfl, su, sd, rfl, rfl, fun z => absurd z (by rw [within_run rj]; decide), fun _ z => absurd z (by rw [within_run rk]; decide), fun _ _ => ⟨false, hv, ⟨false, rfl, ?_⟩⟩⟩⟩
  rw [if_neg Bool.false_ne_true]
  refine s_next ?_
  show ExS G.K E _ [some (.lst (ns.map .int)), some (.ref l), some (.tup [.int u, .int d]), some (.lst [.int j, .int k]), some (coinD G u d), some (.int j), some (.int k), some (.ref x), some (.ref t), none, some (.lst [.non, .lst (itemsD (chancesKv u d j k)), .tup [], .ref e, .str "chances", .int 5]), none, none] [(e, .dic []), (f2, c2), (f1, c1), (t, .dic rv), (x, .dic (chancesKv u d j k)), (l, r5)] _
  refine s_seq (s_parP (ea_consP (ev_opP (EvD.p (d := .lst badL5) (ev_lst (by unfold badL5; walk_at "ra") (by decide)) (ev_taken (r := r5) (k := 5) (by walk_at "ra") (by decide) (by decide) rfl hr5 fun y2 r6 h0 h9 hr6 => ?_)))))
  obtain ⟨b, eb, ob, wb⟩ := bad5 h0 h9
  refine ⟨b, od_ixL eb, ea_consP (ev_taken (r := r6) (k := 5) (by walk_at "ra") (by decide) (by decide) rfl hr6 fun kd r7 k0 k9 hr7 => ea_nilP ⟨_, _, rfl, ?_⟩)⟩
  show ExS G.K E _ [some (.lst (ns.map .int)), some (.ref l), some (.tup [.int u, .int d]), some (.lst [.int j, .int k]), some (coinD G u d), some (.int j), some (.int k), some (.ref x), some (.ref t), none, some (.lst [.non, .lst (itemsD (chancesKv u d j k)), .tup [], .ref e, .str "chances", .int 5]), some b, some (.int kd)] [(e, .dic []), (f2, c2), (f1, c1), (t, .dic rv), (x, .dic (chancesKv u d j k)), (l, r7)] _
  exact s_ret (d := .bl true) (ev_and1 (e_told ob (ev_call (ds := [coinD G u d, b, .int 0, .int kd]) (by walk_at "ra") ⟨u, d, b, .int 0, kd, b, rfl, su, sd, ob.1, rfl, k0, k9, .inl ⟨wb, rfl⟩, rfl, rfl⟩) (ev_lst (by walk_at "ra") (by simp)))
    (e_told ob (ev_call (ds := [coinD G u d, .int j, b, .int kd]) (by walk_at "ra") ⟨u, d, .int j, b, kd, b, rfl, su, sd, rfl, ob.1, k0, k9, .inr ⟨within_run rj, wb, rfl⟩, rfl, rfl⟩) (ev_lst (by walk_at "ra") (by simp)))) (p _)
end
end RA
set_option Elab.async false
set_option linter.all false
set_option maxRecDepth 100000
set_option maxHeartbeats 0
namespace W_k06
open PySem PySem.Spec PyProof.Rows L2 Evl RA
def top (i : Nat) : Stmt := PySem.Challenge.pw_runsapart_k06_chances_shown.main.body.getD i (.Pass ⟨0, 0, 0, 0⟩)
abbrev s__law_taken : Stmt := top 30
theorem sc__law_taken : FnScope n__law_taken ["_law_row", "_law_many"] (defScope s__law_taken) := ⟨rfl, rfl, rfl, by decide +kernel, rfl, by decide +kernel, by decide +kernel⟩
abbrev s__law_runs : Stmt := top 36
theorem sc__law_runs : FnScope n__law_runs ["_law_row", "_law_most"] (defScope s__law_runs) := ⟨rfl, rfl, rfl, by decide +kernel, rfl, by decide +kernel, by decide +kernel⟩
abbrev s__law_drawn : Stmt := top 35
theorem sc__law_drawn : FnScope n__law_drawn ["_law_row"] (defScope s__law_drawn) := ⟨rfl, rfl, rfl, by decide +kernel, rfl, by decide +kernel, by decide +kernel⟩
abbrev s_is_whole : Stmt := top 6
theorem sc_is_whole : FnScope n_is_whole ["value"] (defScope s_is_whole) := ⟨rfl, rfl, rfl, by decide +kernel, rfl, by decide +kernel, by decide +kernel⟩
abbrev s_is_within : Stmt := top 7
theorem sc_is_within : FnScope n_is_within ["value", "low", "high"] (defScope s_is_within) := ⟨rfl, rfl, rfl, by decide +kernel, rfl, by decide +kernel, by decide +kernel⟩
abbrev s_InvalidCoin_init : Stmt := inClass (top 2) 0
theorem sc_InvalidCoin_init : FnScope (["self"] : List Str) ["self"] (defScope s_InvalidCoin_init) := ⟨rfl, rfl, rfl, by decide +kernel, rfl, by decide +kernel, by decide +kernel⟩
abbrev s_common : Stmt := top 8
theorem sc_common : FnScope n_common ["one", "other"] (defScope s_common) := ⟨rfl, rfl, rfl, by decide +kernel, rfl, by decide +kernel, by decide +kernel⟩
abbrev s_fraction : Stmt := top 9
theorem sc_fraction : FnScope n_fraction ["number", "parts"] (defScope s_fraction) := ⟨rfl, rfl, rfl, by decide +kernel, rfl, by decide +kernel, by decide +kernel⟩
abbrev s_Coin_init : Stmt := inClass (top 19) 0
theorem sc_Coin_init : FnScope n_Coin_init ["self", "heads", "tails"] (defScope s_Coin_init) := ⟨rfl, rfl, rfl, by decide +kernel, rfl, by decide +kernel, by decide +kernel⟩
abbrev s_BadRun_init : Stmt := inClass (top 3) 0
theorem sc_BadRun_init : FnScope (["self", "value"] : List Str) ["self", "value"] (defScope s_BadRun_init) := ⟨rfl, rfl, rfl, by decide +kernel, rfl, by decide +kernel, by decide +kernel⟩
abbrev s_need_run : Stmt := top 20
theorem sc_need_run : FnScope n_need_run ["value", "most"] (defScope s_need_run) := ⟨rfl, rfl, rfl, by decide +kernel, rfl, by decide +kernel, by decide +kernel⟩
abbrev s_need_runs : Stmt := top 21
theorem sc_need_runs : FnScope n_need_runs ["j", "k", "most"] (defScope s_need_runs) := ⟨rfl, rfl, rfl, by decide +kernel, rfl, by decide +kernel, by decide +kernel⟩
abbrev s_raised : Stmt := top 15
theorem sc_raised : FnScope n_raised ["one", "times"] (defScope s_raised) := ⟨rfl, rfl, rfl, by decide +kernel, rfl, by decide +kernel, by decide +kernel⟩
abbrev s_powers : Stmt := top 23
theorem sc_powers : FnScope n_powers ["coin", "j", "k"] (defScope s_powers) := ⟨rfl, rfl, rfl, by decide +kernel, rfl, by decide +kernel, by decide +kernel⟩
abbrev s_product : Stmt := top 13
theorem sc_product : FnScope n_product ["one", "other"] (defScope s_product) := ⟨rfl, rfl, rfl, by decide +kernel, rfl, by decide +kernel, by decide +kernel⟩
abbrev s_added : Stmt := top 11
theorem sc_added : FnScope n_added ["one", "other"] (defScope s_added) := ⟨rfl, rfl, rfl, by decide +kernel, rfl, by decide +kernel, by decide +kernel⟩
abbrev s_less : Stmt := top 12
theorem sc_less : FnScope n_less ["one", "other"] (defScope s_less) := ⟨rfl, rfl, rfl, by decide +kernel, rfl, by decide +kernel, by decide +kernel⟩
abbrev s_ends_of : Stmt := top 24
theorem sc_ends_of : FnScope n_ends_of ["x", "y"] (defScope s_ends_of) := ⟨rfl, rfl, rfl, by decide +kernel, rfl, by decide +kernel, by decide +kernel⟩
abbrev s_over : Stmt := top 14
theorem sc_over : FnScope n_over ["one", "other"] (defScope s_over) := ⟨rfl, rfl, rfl, by decide +kernel, rfl, by decide +kernel, by decide +kernel⟩
abbrev s_begun : Stmt := top 25
theorem sc_begun : FnScope n_begun ["coin", "j", "k"] (defScope s_begun) := ⟨rfl, rfl, rfl, by decide +kernel, rfl, by decide +kernel, by decide +kernel⟩
abbrev s_chance_by : Stmt := top 26
theorem sc_chance_by : FnScope n_chance_by ["coin", "j", "k", "state"] (defScope s_chance_by) := ⟨rfl, rfl, rfl, by decide +kernel, rfl, by decide +kernel, by decide +kernel⟩
abbrev s_chances : Stmt := top 27
theorem sc_chances : FnScope n_chances ["coin", "j", "k"] (defScope s_chances) := ⟨rfl, rfl, rfl, by decide +kernel, rfl, by decide +kernel, by decide +kernel⟩
abbrev s_is_fraction : Stmt := top 10
theorem sc_is_fraction : FnScope n_is_fraction ["value"] (defScope s_is_fraction) := ⟨rfl, rfl, rfl, by decide +kernel, rfl, by decide +kernel, by decide +kernel⟩
abbrev s_shows : Stmt := top 28
theorem sc_shows : FnScope n_shows ["coin", "j", "k", "value"] (defScope s_shows) := ⟨rfl, rfl, rfl, by decide +kernel, rfl, by decide +kernel, by decide +kernel⟩
abbrev s__law_frac : Stmt := top 31
theorem sc__law_frac : FnScope n__law_frac ["_law_number", "_law_parts"] (defScope s__law_frac) := ⟨rfl, rfl, rfl, by decide +kernel, rfl, by decide +kernel, by decide +kernel⟩
abbrev s__law_sum : Stmt := top 32
theorem sc__law_sum : FnScope n__law_sum ["_law_one", "_law_mate"] (defScope s__law_sum) := ⟨rfl, rfl, rfl, by decide +kernel, rfl, by decide +kernel, by decide +kernel⟩
abbrev s__law_bent : Stmt := top 39
theorem sc__law_bent : FnScope n__law_bent ["_law_row", "_law_known"] (defScope s__law_bent) := ⟨rfl, rfl, rfl, by decide +kernel, rfl, by decide +kernel, by decide +kernel⟩
abbrev s__law_refused_k06 : Stmt := top 38
theorem sc__law_refused_k06 : FnScope n__law_refused_k06 ["_law_coin", "_law_j", "_law_k", "_law_kind"] (defScope s__law_refused_k06) := ⟨rfl, rfl, rfl, by decide +kernel, rfl, by decide +kernel, by decide +kernel⟩
abbrev s_law_k06 : Stmt := top 40
theorem sc_law_k06 : FnScope n_law_k06 ["_law_script"] (defScope s_law_k06) := ⟨rfl, rfl, rfl, by decide +kernel, rfl, by decide +kernel, by decide +kernel⟩
section
variable {P : Program} {w : World} {mg : Str → Option Value} {base : Heap} {G : Gam} {f : Addr} {fd : FuncData}
theorem ok__law_taken (F : FnX G.K "_law_taken" "_law_taken" (defArgs s__law_taken) (defBody s__law_taken) (defScope s__law_taken) f fd) (hN_int : mg "int" = none) (hN_len : mg "len" = none)  : FnOk P w G.K mg base (L2.CX P w) 1 f fd ["_law_row", "_law_many"] (SpD G.K (R__law_taken G)) :=
  fn_sp F sc__law_taken (SpD.len (n := 2) (by unfold R__law_taken; first | (rintro _ _ _ ⟨rfl, _⟩; rfl) | (rintro _ _ _ ⟨_, rfl, _⟩; rfl) | (rintro _ _ _ ⟨_, _, rfl, _⟩; rfl) | (rintro _ _ _ ⟨_, _, _, rfl, _⟩; rfl) | (rintro _ _ _ ⟨_, _, _, _, rfl, _⟩; rfl) | (rintro _ _ _ ⟨_, _, _, _, _, rfl, _⟩; rfl) | (rintro _ _ _ ⟨_, _, _, _, _, _, rfl, _⟩; rfl) | (rintro _ _ _ ⟨_, _, _, _, _, _, _, rfl, _⟩; rfl) | (rintro _ _ _ ⟨_, _, _, _, _, _, _, _, rfl, _⟩; rfl) | (rintro _ _ _ ⟨_, _, _, _, _, _, _, _, _, rfl, _⟩; rfl) | (rintro _ _ _ ⟨_, _, _, _, _, _, _, _, _, _, rfl, _⟩; rfl) | (rintro _ _ _ ⟨_, _, _, _, _, _, _, _, _, _, _, rfl, _⟩; rfl) | (rintro _ _ _ ⟨_, _, _, _, _, _, _, _, _, _, _, _, rfl, _⟩; rfl) | (rintro _ _ _ ⟨_, _, _, _, _, _, _, _, _, _, _, _, _, rfl, _⟩; rfl))) (t__law_taken G) (fun cdv A outer s H E hr =>
    (pss_cons (ps_if (pt_cmpR op_gt (pe_ix ix_list (pv 0) pe_int (fun _ _ => rfl)) pe_int (nomark _)) (pss_cons (ps_set (i := 2) sc__law_taken.nd rfl (by first | exact Or.inl rfl | exact Or.inr rfl) (pe_op op_mod (pe_callTy call_int1 (by rfl) hN_int (by decide +kernel) (pa_cons (pe_ix ix_list (pv 0) pe_int (fun _ _ => rfl)) pa_nil)) (pv 1)))
    (pss_cons (ps_asg (pe_op op_fdivW (pe_ix ix_list (pv 0) pe_int (fun _ _ => rfl)) (pv 1)) (pg_sub (pv 0) pe_int set_list))
    (pss_one (ps_ret (pv 2))))) pss_nil)
    (pss_cons (ps_asg (pe_op op_add (pe_ix ix_list (pv 0) pe_int (fun _ _ => rfl)) pe_int) (pg_sub (pv 0) pe_int set_list))
    (pss_cons (ps_if (pt_cmpR op_gt (pe_ix ix_list (pv 0) pe_int (fun _ _ => rfl)) (pe_callB call_len (by rfl) hN_len (by decide +kernel) (pa_cons (pe_ix ix_list (pv 0) pe_int (fun _ _ => rfl)) pa_nil)) (nomark _)) (pss_cons (ps_asg (pe_op op_mod (pe_callTy call_int1 (by rfl) hN_int (by decide +kernel) (pa_cons (pe_op op_add (pe_op op_mulW (pe_ix ix_list (pv 0) pe_int (fun _ _ => rfl)) pe_int) pe_int) pa_nil)) pe_int) (pg_sub (pv 0) pe_int set_list))
    (pss_one (ps_ret (pe_op op_mod (pe_callTy call_int1 (by rfl) hN_int (by decide +kernel) (pa_cons (pe_op op_fdivW (pe_ix ix_list (pv 0) pe_int (fun _ _ => rfl)) pe_int) pa_nil)) (pv 1))))) pss_nil)
    (pss_cons (ps_set (i := 3) sc__law_taken.nd rfl (by first | exact Or.inl rfl | exact Or.inr rfl) (pe_ix ix_list (pe_ix ix_list (pv 0) pe_int (fun _ _ => rfl)) (pe_op op_sub (pe_ix ix_list (pv 0) pe_int (fun _ _ => rfl)) pe_int) (fun _ _ => rfl)))
    (pss_cons (ps_asg (pe_op op_mod (pe_callTy call_int1 (by rfl) hN_int (by decide +kernel) (pa_cons (pe_op op_add (pe_op op_add (pe_op op_mulW (pe_ix ix_list (pv 0) pe_int (fun _ _ => rfl)) pe_int) (pv 3)) pe_int) pa_nil)) pe_int) (pg_sub (pv 0) pe_int set_list))
    (pss_cons (ps_if (pt_cmpR op_ge (pv 3) (pe_op op_pow pe_int pe_int) (nomark _)) (pss_one (ps_asg (pe_op op_fdivW (pv 3) (pv 1)) (pg_sub (pv 0) pe_int set_list))) pss_nil)
    (pss_one (ps_ret (pe_op op_mod (pe_callTy call_int1 (by rfl) hN_int (by decide +kernel) (pa_cons (pv 3) pa_nil)) (pv 1))))))))))) (fun vs H Q E h => pure_of (fun ds m P E h => p__law_taken  h) h)
theorem ok__law_runs (F : FnX G.K "_law_runs" "_law_runs" (defArgs s__law_runs) (defBody s__law_runs) (defScope s__law_runs) f fd) (hF__law_taken : HasF P w G.K mg base "_law_taken" 1 ["_law_row", "_law_many"] (SpD G.K (R__law_taken G)))  : FnOk P w G.K mg base (L2.CX P w) 2 f fd ["_law_row", "_law_most"] (SpD G.K (R__law_runs G)) :=
  fn_sp F sc__law_runs (SpD.len (n := 2) (by unfold R__law_runs; first | (rintro _ _ _ ⟨rfl, _⟩; rfl) | (rintro _ _ _ ⟨_, rfl, _⟩; rfl) | (rintro _ _ _ ⟨_, _, rfl, _⟩; rfl) | (rintro _ _ _ ⟨_, _, _, rfl, _⟩; rfl) | (rintro _ _ _ ⟨_, _, _, _, rfl, _⟩; rfl) | (rintro _ _ _ ⟨_, _, _, _, _, rfl, _⟩; rfl) | (rintro _ _ _ ⟨_, _, _, _, _, _, rfl, _⟩; rfl) | (rintro _ _ _ ⟨_, _, _, _, _, _, _, rfl, _⟩; rfl) | (rintro _ _ _ ⟨_, _, _, _, _, _, _, _, rfl, _⟩; rfl) | (rintro _ _ _ ⟨_, _, _, _, _, _, _, _, _, rfl, _⟩; rfl) | (rintro _ _ _ ⟨_, _, _, _, _, _, _, _, _, _, rfl, _⟩; rfl) | (rintro _ _ _ ⟨_, _, _, _, _, _, _, _, _, _, _, rfl, _⟩; rfl) | (rintro _ _ _ ⟨_, _, _, _, _, _, _, _, _, _, _, _, rfl, _⟩; rfl) | (rintro _ _ _ ⟨_, _, _, _, _, _, _, _, _, _, _, _, _, rfl, _⟩; rfl))) (t__law_runs G) (fun cdv A outer s H E hr =>
    (pss_one (ps_ret (pe_lst (pa_cons (pe_op op_add pe_int (pe_callH hF__law_taken (hr.mono (by decide)) pxE (pa_cons (pv 0) (pa_cons (pe_ix ix_list (pe_lst (pa_cons pe_int (pa_cons (pv 1) pa_nil))) (pe_callH hF__law_taken (hr.mono (by decide)) pxE (pa_cons (pv 0) (pa_cons pe_int pa_nil))) (fun _ _ => rfl)) pa_nil)))) (pa_cons (pe_op op_add pe_int (pe_callH hF__law_taken (hr.mono (by decide)) pxE (pa_cons (pv 0) (pa_cons (pe_ix ix_list (pe_lst (pa_cons pe_int (pa_cons (pv 1) pa_nil))) (pe_callH hF__law_taken (hr.mono (by decide)) pxE (pa_cons (pv 0) (pa_cons pe_int pa_nil))) (fun _ _ => rfl)) pa_nil)))) pa_nil)))))) (fun vs H Q E h => pure_of (fun ds m P E h => p__law_runs  h) h)
theorem ok__law_drawn (F : FnX G.K "_law_drawn" "_law_drawn" (defArgs s__law_drawn) (defBody s__law_drawn) (defScope s__law_drawn) f fd) (hF__law_taken : HasF P w G.K mg base "_law_taken" 1 ["_law_row", "_law_many"] (SpD G.K (R__law_taken G)))  : FnOk P w G.K mg base (L2.CX P w) 2 f fd ["_law_row"] (SpD G.K (R__law_drawn G)) :=
  fn_sp F sc__law_drawn (SpD.len (n := 1) (by unfold R__law_drawn; first | (rintro _ _ _ ⟨rfl, _⟩; rfl) | (rintro _ _ _ ⟨_, rfl, _⟩; rfl) | (rintro _ _ _ ⟨_, _, rfl, _⟩; rfl) | (rintro _ _ _ ⟨_, _, _, rfl, _⟩; rfl) | (rintro _ _ _ ⟨_, _, _, _, rfl, _⟩; rfl) | (rintro _ _ _ ⟨_, _, _, _, _, rfl, _⟩; rfl) | (rintro _ _ _ ⟨_, _, _, _, _, _, rfl, _⟩; rfl) | (rintro _ _ _ ⟨_, _, _, _, _, _, _, rfl, _⟩; rfl) | (rintro _ _ _ ⟨_, _, _, _, _, _, _, _, rfl, _⟩; rfl) | (rintro _ _ _ ⟨_, _, _, _, _, _, _, _, _, rfl, _⟩; rfl) | (rintro _ _ _ ⟨_, _, _, _, _, _, _, _, _, _, rfl, _⟩; rfl) | (rintro _ _ _ ⟨_, _, _, _, _, _, _, _, _, _, _, rfl, _⟩; rfl) | (rintro _ _ _ ⟨_, _, _, _, _, _, _, _, _, _, _, _, rfl, _⟩; rfl) | (rintro _ _ _ ⟨_, _, _, _, _, _, _, _, _, _, _, _, _, rfl, _⟩; rfl))) (t__law_drawn G) (fun cdv A outer s H E hr =>
    (pss_one (ps_ret (pe_ix ix_list (pe_lst (pa_cons (pe_tup (pa_cons pe_int (pa_cons pe_int pa_nil))) (pa_cons (pe_tup (pa_cons pe_int (pa_cons pe_int pa_nil))) (pa_cons (pe_tup (pa_cons pe_int (pa_cons pe_int pa_nil))) (pa_cons (pe_tup (pa_cons pe_int (pa_cons pe_int pa_nil))) (pa_cons (pe_tup (pa_cons pe_int (pa_cons pe_int pa_nil))) (pa_cons (pe_tup (pa_cons pe_int (pa_cons pe_int pa_nil))) (pa_cons (pe_tup (pa_cons pe_int (pa_cons pe_int pa_nil))) (pa_cons (pe_tup (pa_cons pe_int (pa_cons pe_int pa_nil))) pa_nil))))))))) (pe_callH hF__law_taken (hr.mono (by decide)) pxE (pa_cons (pv 0) (pa_cons pe_int pa_nil))) (fun _ _ => rfl))))) (fun vs H Q E h => pure_of (fun ds m P E h => p__law_drawn  h) h)
theorem ok_is_whole (F : FnX G.K "is_whole" "is_whole" (defArgs s_is_whole) (defBody s_is_whole) (defScope s_is_whole) f fd) (hN_int : mg "int" = none) (hN_isinstance : mg "isinstance" = none) (hN_bool : mg "bool" = none)  : FnOk P w G.K mg base (L2.CX P w) 1 f fd ["value"] (SpD G.K (R_is_whole G)) :=
  fn_sp F sc_is_whole (SpD.len (n := 1) (by unfold R_is_whole; first | (rintro _ _ _ ⟨rfl, _⟩; rfl) | (rintro _ _ _ ⟨_, rfl, _⟩; rfl) | (rintro _ _ _ ⟨_, _, rfl, _⟩; rfl) | (rintro _ _ _ ⟨_, _, _, rfl, _⟩; rfl) | (rintro _ _ _ ⟨_, _, _, _, rfl, _⟩; rfl) | (rintro _ _ _ ⟨_, _, _, _, _, rfl, _⟩; rfl) | (rintro _ _ _ ⟨_, _, _, _, _, _, rfl, _⟩; rfl) | (rintro _ _ _ ⟨_, _, _, _, _, _, _, rfl, _⟩; rfl) | (rintro _ _ _ ⟨_, _, _, _, _, _, _, _, rfl, _⟩; rfl) | (rintro _ _ _ ⟨_, _, _, _, _, _, _, _, _, rfl, _⟩; rfl) | (rintro _ _ _ ⟨_, _, _, _, _, _, _, _, _, _, rfl, _⟩; rfl) | (rintro _ _ _ ⟨_, _, _, _, _, _, _, _, _, _, _, rfl, _⟩; rfl) | (rintro _ _ _ ⟨_, _, _, _, _, _, _, _, _, _, _, _, rfl, _⟩; rfl) | (rintro _ _ _ ⟨_, _, _, _, _, _, _, _, _, _, _, _, _, rfl, _⟩; rfl))) (t_is_whole G) (fun cdv A outer s H E hr =>
    (pss_one (ps_ret (pe_and (pe_callB call_isi (by rfl) hN_isinstance (by decide +kernel) (pa_cons (pv 0) (pa_cons (pe_bltn (by rfl) hN_int (by decide +kernel) rfl) pa_nil))) (pe_one (pe_not (pe_callB call_isi (by rfl) hN_isinstance (by decide +kernel) (pa_cons (pv 0) (pa_cons (pe_bltn (by rfl) hN_bool (by decide +kernel) rfl) pa_nil))))))))) (fun vs H Q E h => pure_of (fun ds m P E h => p_is_whole  h) h)
theorem ok_is_within (F : FnX G.K "is_within" "is_within" (defArgs s_is_within) (defBody s_is_within) (defScope s_is_within) f fd) (hF_is_whole : HasF P w G.K mg base "is_whole" 1 ["value"] (SpD G.K (R_is_whole G)))  : FnOk P w G.K mg base (L2.CX P w) 2 f fd ["value", "low", "high"] (SpD G.K (R_is_within G)) :=
  fn_sp F sc_is_within (SpD.len (n := 3) (by unfold R_is_within; first | (rintro _ _ _ ⟨rfl, _⟩; rfl) | (rintro _ _ _ ⟨_, rfl, _⟩; rfl) | (rintro _ _ _ ⟨_, _, rfl, _⟩; rfl) | (rintro _ _ _ ⟨_, _, _, rfl, _⟩; rfl) | (rintro _ _ _ ⟨_, _, _, _, rfl, _⟩; rfl) | (rintro _ _ _ ⟨_, _, _, _, _, rfl, _⟩; rfl) | (rintro _ _ _ ⟨_, _, _, _, _, _, rfl, _⟩; rfl) | (rintro _ _ _ ⟨_, _, _, _, _, _, _, rfl, _⟩; rfl) | (rintro _ _ _ ⟨_, _, _, _, _, _, _, _, rfl, _⟩; rfl) | (rintro _ _ _ ⟨_, _, _, _, _, _, _, _, _, rfl, _⟩; rfl) | (rintro _ _ _ ⟨_, _, _, _, _, _, _, _, _, _, rfl, _⟩; rfl) | (rintro _ _ _ ⟨_, _, _, _, _, _, _, _, _, _, _, rfl, _⟩; rfl) | (rintro _ _ _ ⟨_, _, _, _, _, _, _, _, _, _, _, _, rfl, _⟩; rfl) | (rintro _ _ _ ⟨_, _, _, _, _, _, _, _, _, _, _, _, _, rfl, _⟩; rfl))) (t_is_within G) (fun cdv A outer s H E hr =>
    (pss_one (ps_ret (pe_and (pe_callH hF_is_whole (hr.mono (by decide)) pxE (pa_cons (pv 0) pa_nil)) (pe_one (pe_chain op_le op_le (pv 1) (pv 0) (pv 2))))))) (fun vs H Q E h => pure_of (fun ds m P E h => p_is_within  h) h)
theorem ok_InvalidCoin_init (F : FnX G.K "__init__" "InvalidCoin.__init__" (defArgs s_InvalidCoin_init) (defBody s_InvalidCoin_init) (defScope s_InvalidCoin_init) f fd) (hG : mg "RunError" = some (.ref G.cRunError)) (hB : BaseI G.K G.cRunError (.type "type")) (hO : OexC G.K G.cInvalidCoin)  : FnOk P w G.K mg base (L2.CX P w) 1 f fd ["self"] (spE0 G.cInvalidCoin) :=
  fn_sp F sc_InvalidCoin_init (by rintro _ _ _ _ ⟨_, rfl, _⟩; rfl) (fun _ => t_E0 G.K "the coin is wrong") (fun cdv A outer s H E hr => (pss_one (ps_expr (pe_binit (by rfl) hG hB (pa_cons (pv 0) (pa_cons pe_str pa_nil)))))) (fun vs H Q E h => pure_E0 hO h)
theorem ok_common (F : FnX G.K "common" "common" (defArgs s_common) (defBody s_common) (defScope s_common) f fd) (hN_abs : mg "abs" = none)  : FnOk P w G.K mg base (L2.CX P w) 1 f fd ["one", "other"] (SpD G.K (R_common G)) :=
  fn_sp F sc_common (SpD.len (n := 2) (by unfold R_common; first | (rintro _ _ _ ⟨rfl, _⟩; rfl) | (rintro _ _ _ ⟨_, rfl, _⟩; rfl) | (rintro _ _ _ ⟨_, _, rfl, _⟩; rfl) | (rintro _ _ _ ⟨_, _, _, rfl, _⟩; rfl) | (rintro _ _ _ ⟨_, _, _, _, rfl, _⟩; rfl) | (rintro _ _ _ ⟨_, _, _, _, _, rfl, _⟩; rfl) | (rintro _ _ _ ⟨_, _, _, _, _, _, rfl, _⟩; rfl) | (rintro _ _ _ ⟨_, _, _, _, _, _, _, rfl, _⟩; rfl) | (rintro _ _ _ ⟨_, _, _, _, _, _, _, _, rfl, _⟩; rfl) | (rintro _ _ _ ⟨_, _, _, _, _, _, _, _, _, rfl, _⟩; rfl) | (rintro _ _ _ ⟨_, _, _, _, _, _, _, _, _, _, rfl, _⟩; rfl) | (rintro _ _ _ ⟨_, _, _, _, _, _, _, _, _, _, _, rfl, _⟩; rfl) | (rintro _ _ _ ⟨_, _, _, _, _, _, _, _, _, _, _, _, rfl, _⟩; rfl) | (rintro _ _ _ ⟨_, _, _, _, _, _, _, _, _, _, _, _, _, rfl, _⟩; rfl))) (t_common G) (fun cdv A outer s H E hr =>
    (pss_cons (ps_par (i := 0) (j := 1) (by rfl) sc_common.nd rfl rfl (by decide) rfl rfl (pa_cons (pe_callB call_abs (by rfl) hN_abs (by decide +kernel) (pa_cons (pv 0) pa_nil)) (pa_cons (pe_callB call_abs (by rfl) hN_abs (by decide +kernel) (pa_cons (pv 1) pa_nil)) pa_nil)) (by rfl))
    (pss_cons (ps_while (passes_of rfl) (pt_cmpR op_gt (pv 1) pe_int (nomark _)) (pss_one (ps_par (i := 0) (j := 1) (by rfl) sc_common.nd rfl rfl (by decide) rfl rfl (pa_cons (pv 1) (pa_cons (pe_op op_sub (pv 0) (pe_op op_mulW (pe_op op_fdivW (pv 0) (pv 1)) (pv 1))) pa_nil)) (by rfl))))
    (pss_one (ps_ret (pv 0)))))) (fun vs H Q E h => pure_of (fun ds m P E h => p_common  h) h)
theorem ok_fraction (F : FnX G.K "fraction" "fraction" (defArgs s_fraction) (defBody s_fraction) (defScope s_fraction) f fd) (hF_common : HasF P w G.K mg base "common" 1 ["one", "other"] (SpD G.K (R_common G)))  : FnOk P w G.K mg base (L2.CX P w) 2 f fd ["number", "parts"] (SpD G.K (R_fraction G)) :=
  fn_sp F sc_fraction (SpD.len (n := 2) (by unfold R_fraction; first | (rintro _ _ _ ⟨rfl, _⟩; rfl) | (rintro _ _ _ ⟨_, rfl, _⟩; rfl) | (rintro _ _ _ ⟨_, _, rfl, _⟩; rfl) | (rintro _ _ _ ⟨_, _, _, rfl, _⟩; rfl) | (rintro _ _ _ ⟨_, _, _, _, rfl, _⟩; rfl) | (rintro _ _ _ ⟨_, _, _, _, _, rfl, _⟩; rfl) | (rintro _ _ _ ⟨_, _, _, _, _, _, rfl, _⟩; rfl) | (rintro _ _ _ ⟨_, _, _, _, _, _, _, rfl, _⟩; rfl) | (rintro _ _ _ ⟨_, _, _, _, _, _, _, _, rfl, _⟩; rfl) | (rintro _ _ _ ⟨_, _, _, _, _, _, _, _, _, rfl, _⟩; rfl) | (rintro _ _ _ ⟨_, _, _, _, _, _, _, _, _, _, rfl, _⟩; rfl) | (rintro _ _ _ ⟨_, _, _, _, _, _, _, _, _, _, _, rfl, _⟩; rfl) | (rintro _ _ _ ⟨_, _, _, _, _, _, _, _, _, _, _, _, rfl, _⟩; rfl) | (rintro _ _ _ ⟨_, _, _, _, _, _, _, _, _, _, _, _, _, rfl, _⟩; rfl))) (t_fraction G) (fun cdv A outer s H E hr =>
    (pss_cons (ps_if (pt_cmpR op_lt (pv 1) pe_int (nomark _)) (pss_one (ps_par (i := 0) (j := 1) (by rfl) sc_fraction.nd rfl rfl (by decide) rfl rfl (pa_cons (pe_un un_neg (pv 0)) (pa_cons (pe_un un_neg (pv 1)) pa_nil)) (by rfl))) pss_nil)
    (pss_cons (ps_set (i := 2) sc_fraction.nd rfl (by first | exact Or.inl rfl | exact Or.inr rfl) (pe_callH hF_common (hr.mono (by decide)) pxE (pa_cons (pv 0) (pa_cons (pv 1) pa_nil))))
    (pss_one (ps_ret (pe_tup (pa_cons (pe_op op_fdivW (pv 0) (pv 2)) (pa_cons (pe_op op_fdivW (pv 1) (pv 2)) pa_nil)))))))) (fun vs H Q E h => pure_of (fun ds m P E h => p_fraction  h) h)
theorem ok_Coin_init (F : FnX G.K "__init__" "Coin.__init__" (defArgs s_Coin_init) (defBody s_Coin_init) (defScope s_Coin_init) f fd) (hI_MOST_SHARE : ∃ t, mg "MOST_SHARE" = some (.int 9 t)) (hF_is_within : HasF P w G.K mg base "is_within" 2 ["value", "low", "high"] (SpD G.K (R_is_within G))) (hE_InvalidCoin : HasE P w G.K mg base "InvalidCoin" G.cInvalidCoin 1 ["self"] (spE0 G.cInvalidCoin)) (hF_fraction : HasF P w G.K mg base "fraction" 2 ["number", "parts"] (SpD G.K (R_fraction G))) (hCoin : CoinOk G) : FnOk P w G.K mg base (L2.CX P w) 3 f fd ["self", "heads", "tails"] (SpD G.K (R_Coin_init G)) :=
  fn_sp F sc_Coin_init (SpD.len (n := 3) (by unfold R_Coin_init; first | (rintro _ _ _ ⟨rfl, _⟩; rfl) | (rintro _ _ _ ⟨_, rfl, _⟩; rfl) | (rintro _ _ _ ⟨_, _, rfl, _⟩; rfl) | (rintro _ _ _ ⟨_, _, _, rfl, _⟩; rfl) | (rintro _ _ _ ⟨_, _, _, _, rfl, _⟩; rfl) | (rintro _ _ _ ⟨_, _, _, _, _, rfl, _⟩; rfl) | (rintro _ _ _ ⟨_, _, _, _, _, _, rfl, _⟩; rfl) | (rintro _ _ _ ⟨_, _, _, _, _, _, _, rfl, _⟩; rfl) | (rintro _ _ _ ⟨_, _, _, _, _, _, _, _, rfl, _⟩; rfl) | (rintro _ _ _ ⟨_, _, _, _, _, _, _, _, _, rfl, _⟩; rfl) | (rintro _ _ _ ⟨_, _, _, _, _, _, _, _, _, _, rfl, _⟩; rfl) | (rintro _ _ _ ⟨_, _, _, _, _, _, _, _, _, _, _, rfl, _⟩; rfl) | (rintro _ _ _ ⟨_, _, _, _, _, _, _, _, _, _, _, _, rfl, _⟩; rfl) | (rintro _ _ _ ⟨_, _, _, _, _, _, _, _, _, _, _, _, _, rfl, _⟩; rfl))) (t_Coin_init G) (fun cdv A outer s H E hr =>
    (pss_cons (ps_if (PW.pt (pw_or (pt_not (pt_val (pe_callH hF_is_within (hr.mono (by decide)) pxE (pa_cons (pv 1) (pa_cons pe_int (pa_cons (pe_glob (by rfl) hI_MOST_SHARE.choose_spec ⟨_, rfl⟩) pa_nil)))))) (pw_or1 (pt_not (pt_val (pe_callH hF_is_within (hr.mono (by decide)) pxE (pa_cons (pv 2) (pa_cons pe_int (pa_cons (pe_glob (by rfl) hI_MOST_SHARE.choose_spec ⟨_, rfl⟩) pa_nil))))))))) (pss_one (ps_raiseH rfl tkE (pmk_errH0 hE_InvalidCoin (hr.mono (by decide)) passL))) pss_nil)
    (pss_cons (ps_fld (pv 0) (pv 1) rfl)
    (pss_cons (ps_fld (pv 0) (pv 2) rfl)
    (pss_cons (ps_fld (pv 0) (pe_callH hF_fraction (hr.mono (by decide)) pxE (pa_cons (pv 1) (pa_cons (pe_op op_add (pv 1) (pv 2)) pa_nil))) rfl)
    (pss_one (ps_fld (pv 0) (pe_callH hF_fraction (hr.mono (by decide)) pxE (pa_cons (pv 2) (pa_cons (pe_op op_add (pv 1) (pv 2)) pa_nil))) rfl))))))) (fun vs H Q E h => pure_of (fun ds m P E h => p_Coin_init hCoin h) h)
theorem ok_BadRun_init (F : FnX G.K "__init__" "BadRun.__init__" (defArgs s_BadRun_init) (defBody s_BadRun_init) (defScope s_BadRun_init) f fd) (hG : mg "RunError" = some (.ref G.cRunError)) (hB : BaseI G.K G.cRunError (.type "type")) (hO : OexC G.K G.cBadRun) (y0 : PySem.W.findIn G.K (.ref G.cBadRun) "value" = some none) : FnOk P w G.K mg base (L2.CX P w) 1 f fd ["self", "value"] (spE1 G.cBadRun "value") :=
  fn_sp F sc_BadRun_init (by rintro _ _ _ _ ⟨_, _, rfl, _⟩; rfl) (fun _ => t_E1 G.K "a run is wrong" "value") (fun cdv A outer s H E hr => (pss_cons (ps_expr (pe_binit (by rfl) hG hB (pa_cons (pv 0) (pa_cons pe_str pa_nil)))) (pss_one (ps_ost (pv 0) (pv 1))))) (fun vs H Q E h => pure_E1 hO y0 h)
theorem ok_need_run (F : FnX G.K "need_run" "need_run" (defArgs s_need_run) (defBody s_need_run) (defScope s_need_run) f fd) (hF_is_within : HasF P w G.K mg base "is_within" 2 ["value", "low", "high"] (SpD G.K (R_is_within G))) (hE_BadRun : HasE P w G.K mg base "BadRun" G.cBadRun 1 ["self", "value"] (spE1 G.cBadRun "value"))  : FnOk P w G.K mg base (L2.CX P w) 3 f fd ["value", "most"] (SpD G.K (R_need_run G)) :=
  fn_sp F sc_need_run (SpD.len (n := 2) (by unfold R_need_run; first | (rintro _ _ _ ⟨rfl, _⟩; rfl) | (rintro _ _ _ ⟨_, rfl, _⟩; rfl) | (rintro _ _ _ ⟨_, _, rfl, _⟩; rfl) | (rintro _ _ _ ⟨_, _, _, rfl, _⟩; rfl) | (rintro _ _ _ ⟨_, _, _, _, rfl, _⟩; rfl) | (rintro _ _ _ ⟨_, _, _, _, _, rfl, _⟩; rfl) | (rintro _ _ _ ⟨_, _, _, _, _, _, rfl, _⟩; rfl) | (rintro _ _ _ ⟨_, _, _, _, _, _, _, rfl, _⟩; rfl) | (rintro _ _ _ ⟨_, _, _, _, _, _, _, _, rfl, _⟩; rfl) | (rintro _ _ _ ⟨_, _, _, _, _, _, _, _, _, rfl, _⟩; rfl) | (rintro _ _ _ ⟨_, _, _, _, _, _, _, _, _, _, rfl, _⟩; rfl) | (rintro _ _ _ ⟨_, _, _, _, _, _, _, _, _, _, _, rfl, _⟩; rfl) | (rintro _ _ _ ⟨_, _, _, _, _, _, _, _, _, _, _, _, rfl, _⟩; rfl) | (rintro _ _ _ ⟨_, _, _, _, _, _, _, _, _, _, _, _, _, rfl, _⟩; rfl))) (t_need_run G) (fun cdv A outer s H E hr =>
    (pss_one (ps_if (pt_not (pt_val (pe_callH hF_is_within (hr.mono (by decide)) pxE (pa_cons (pv 0) (pa_cons pe_int (pa_cons (pv 1) pa_nil)))))) (pss_one (ps_raiseH rfl tkE (pmk_errH hE_BadRun (hr.mono (by decide)) passL (pa_cons (pv 0) pa_nil)))) pss_nil))) (fun vs H Q E h => pure_of (fun ds m P E h => p_need_run  h) h)
theorem ok_need_runs (F : FnX G.K "need_runs" "need_runs" (defArgs s_need_runs) (defBody s_need_runs) (defScope s_need_runs) f fd) (hF_need_run : HasF P w G.K mg base "need_run" 3 ["value", "most"] (SpD G.K (R_need_run G)))  : FnOk P w G.K mg base (L2.CX P w) 4 f fd ["j", "k", "most"] (SpD G.K (R_need_runs G)) :=
  fn_sp F sc_need_runs (SpD.len (n := 3) (by unfold R_need_runs; first | (rintro _ _ _ ⟨rfl, _⟩; rfl) | (rintro _ _ _ ⟨_, rfl, _⟩; rfl) | (rintro _ _ _ ⟨_, _, rfl, _⟩; rfl) | (rintro _ _ _ ⟨_, _, _, rfl, _⟩; rfl) | (rintro _ _ _ ⟨_, _, _, _, rfl, _⟩; rfl) | (rintro _ _ _ ⟨_, _, _, _, _, rfl, _⟩; rfl) | (rintro _ _ _ ⟨_, _, _, _, _, _, rfl, _⟩; rfl) | (rintro _ _ _ ⟨_, _, _, _, _, _, _, rfl, _⟩; rfl) | (rintro _ _ _ ⟨_, _, _, _, _, _, _, _, rfl, _⟩; rfl) | (rintro _ _ _ ⟨_, _, _, _, _, _, _, _, _, rfl, _⟩; rfl) | (rintro _ _ _ ⟨_, _, _, _, _, _, _, _, _, _, rfl, _⟩; rfl) | (rintro _ _ _ ⟨_, _, _, _, _, _, _, _, _, _, _, rfl, _⟩; rfl) | (rintro _ _ _ ⟨_, _, _, _, _, _, _, _, _, _, _, _, rfl, _⟩; rfl) | (rintro _ _ _ ⟨_, _, _, _, _, _, _, _, _, _, _, _, _, rfl, _⟩; rfl))) (t_need_runs G) (fun cdv A outer s H E hr =>
    (pss_cons (ps_expr (pe_callH hF_need_run (hr.mono (by decide)) pxE (pa_cons (pv 0) (pa_cons (pv 2) pa_nil))))
    (pss_one (ps_expr (pe_callH hF_need_run (hr.mono (by decide)) pxE (pa_cons (pv 1) (pa_cons (pv 2) pa_nil))))))) (fun vs H Q E h => pure_of (fun ds m P E h => p_need_runs  h) h)
theorem ok_raised (F : FnX G.K "raised" "raised" (defArgs s_raised) (defBody s_raised) (defScope s_raised) f fd) (hN_range : mg "range" = none) (hF_fraction : HasF P w G.K mg base "fraction" 2 ["number", "parts"] (SpD G.K (R_fraction G)))  : FnOk P w G.K mg base (L2.CX P w) 3 f fd ["one", "times"] (SpD G.K (R_raised G)) :=
  fn_sp F sc_raised (SpD.len (n := 2) (by unfold R_raised; first | (rintro _ _ _ ⟨rfl, _⟩; rfl) | (rintro _ _ _ ⟨_, rfl, _⟩; rfl) | (rintro _ _ _ ⟨_, _, rfl, _⟩; rfl) | (rintro _ _ _ ⟨_, _, _, rfl, _⟩; rfl) | (rintro _ _ _ ⟨_, _, _, _, rfl, _⟩; rfl) | (rintro _ _ _ ⟨_, _, _, _, _, rfl, _⟩; rfl) | (rintro _ _ _ ⟨_, _, _, _, _, _, rfl, _⟩; rfl) | (rintro _ _ _ ⟨_, _, _, _, _, _, _, rfl, _⟩; rfl) | (rintro _ _ _ ⟨_, _, _, _, _, _, _, _, rfl, _⟩; rfl) | (rintro _ _ _ ⟨_, _, _, _, _, _, _, _, _, rfl, _⟩; rfl) | (rintro _ _ _ ⟨_, _, _, _, _, _, _, _, _, _, rfl, _⟩; rfl) | (rintro _ _ _ ⟨_, _, _, _, _, _, _, _, _, _, _, rfl, _⟩; rfl) | (rintro _ _ _ ⟨_, _, _, _, _, _, _, _, _, _, _, _, rfl, _⟩; rfl) | (rintro _ _ _ ⟨_, _, _, _, _, _, _, _, _, _, _, _, _, rfl, _⟩; rfl))) (t_raised G) (fun cdv A outer s H E hr =>
    (pss_cons (ps_asg (pe_tup (pa_cons pe_int (pa_cons pe_int pa_nil))) (pg_tup rfl (pgs_cons (pg_name (i := 2) sc_raised.nd rfl (by first | exact Or.inl rfl | exact Or.inr rfl)) (pgs_cons (pg_name (i := 3) sc_raised.nd rfl (by first | exact Or.inl rfl | exact Or.inr rfl)) pgs_nil))))
    (pss_cons (ps_for (passes_of rfl) rfl (pi_range1 rfl hN_range (pa_cons (pv 1) pa_nil)) (pg_name (i := 4) sc_raised.nd rfl (by first | exact Or.inl rfl | exact Or.inr rfl)) (pss_one (ps_par (i := 2) (j := 3) (by rfl) sc_raised.nd rfl rfl (by decide) rfl rfl (pa_cons (pe_op op_mulW (pv 2) (pe_ix ix_tup (pv 0) pe_int (fun _ _ => rfl))) (pa_cons (pe_op op_mulW (pv 3) (pe_ix ix_tup (pv 0) pe_int (fun _ _ => rfl))) pa_nil)) (by rfl))))
    (pss_one (ps_ret (pe_callH hF_fraction (hr.mono (by decide)) pxE (pa_cons (pv 2) (pa_cons (pv 3) pa_nil)))))))) (fun vs H Q E h => pure_of (fun ds m P E h => p_raised  h) h)
theorem ok_powers (F : FnX G.K "powers" "powers" (defArgs s_powers) (defBody s_powers) (defScope s_powers) f fd) (hF_raised : HasF P w G.K mg base "raised" 3 ["one", "times"] (SpD G.K (R_raised G))) (hCoin : CoinOk G) : FnOk P w G.K mg base (L2.CX P w) 4 f fd ["coin", "j", "k"] (SpD G.K (R_powers G)) :=
  fn_sp F sc_powers (SpD.len (n := 3) (by unfold R_powers; first | (rintro _ _ _ ⟨rfl, _⟩; rfl) | (rintro _ _ _ ⟨_, rfl, _⟩; rfl) | (rintro _ _ _ ⟨_, _, rfl, _⟩; rfl) | (rintro _ _ _ ⟨_, _, _, rfl, _⟩; rfl) | (rintro _ _ _ ⟨_, _, _, _, rfl, _⟩; rfl) | (rintro _ _ _ ⟨_, _, _, _, _, rfl, _⟩; rfl) | (rintro _ _ _ ⟨_, _, _, _, _, _, rfl, _⟩; rfl) | (rintro _ _ _ ⟨_, _, _, _, _, _, _, rfl, _⟩; rfl) | (rintro _ _ _ ⟨_, _, _, _, _, _, _, _, rfl, _⟩; rfl) | (rintro _ _ _ ⟨_, _, _, _, _, _, _, _, _, rfl, _⟩; rfl) | (rintro _ _ _ ⟨_, _, _, _, _, _, _, _, _, _, rfl, _⟩; rfl) | (rintro _ _ _ ⟨_, _, _, _, _, _, _, _, _, _, _, rfl, _⟩; rfl) | (rintro _ _ _ ⟨_, _, _, _, _, _, _, _, _, _, _, _, rfl, _⟩; rfl) | (rintro _ _ _ ⟨_, _, _, _, _, _, _, _, _, _, _, _, _, rfl, _⟩; rfl))) (t_powers G) (fun cdv A outer s H E hr =>
    (pss_one (ps_ret (pe_tup (pa_cons (pe_callH hF_raised (hr.mono (by decide)) pxE (pa_cons (pe_fld (pv 0) rfl) (pa_cons (pe_op op_sub (pv 1) pe_int) pa_nil))) (pa_cons (pe_callH hF_raised (hr.mono (by decide)) pxE (pa_cons (pe_fld (pv 0) rfl) (pa_cons (pe_op op_sub (pv 2) pe_int) pa_nil))) pa_nil)))))) (fun vs H Q E h => pure_of (fun ds m P E h => p_powers hCoin h) h)
theorem ok_product (F : FnX G.K "product" "product" (defArgs s_product) (defBody s_product) (defScope s_product) f fd) (hF_fraction : HasF P w G.K mg base "fraction" 2 ["number", "parts"] (SpD G.K (R_fraction G)))  : FnOk P w G.K mg base (L2.CX P w) 3 f fd ["one", "other"] (SpD G.K (R_product G)) :=
  fn_sp F sc_product (SpD.len (n := 2) (by unfold R_product; first | (rintro _ _ _ ⟨rfl, _⟩; rfl) | (rintro _ _ _ ⟨_, rfl, _⟩; rfl) | (rintro _ _ _ ⟨_, _, rfl, _⟩; rfl) | (rintro _ _ _ ⟨_, _, _, rfl, _⟩; rfl) | (rintro _ _ _ ⟨_, _, _, _, rfl, _⟩; rfl) | (rintro _ _ _ ⟨_, _, _, _, _, rfl, _⟩; rfl) | (rintro _ _ _ ⟨_, _, _, _, _, _, rfl, _⟩; rfl) | (rintro _ _ _ ⟨_, _, _, _, _, _, _, rfl, _⟩; rfl) | (rintro _ _ _ ⟨_, _, _, _, _, _, _, _, rfl, _⟩; rfl) | (rintro _ _ _ ⟨_, _, _, _, _, _, _, _, _, rfl, _⟩; rfl) | (rintro _ _ _ ⟨_, _, _, _, _, _, _, _, _, _, rfl, _⟩; rfl) | (rintro _ _ _ ⟨_, _, _, _, _, _, _, _, _, _, _, rfl, _⟩; rfl) | (rintro _ _ _ ⟨_, _, _, _, _, _, _, _, _, _, _, _, rfl, _⟩; rfl) | (rintro _ _ _ ⟨_, _, _, _, _, _, _, _, _, _, _, _, _, rfl, _⟩; rfl))) (t_product G) (fun cdv A outer s H E hr =>
    (pss_one (ps_ret (pe_callH hF_fraction (hr.mono (by decide)) pxE (pa_cons (pe_op op_mulW (pe_ix ix_tup (pv 0) pe_int (fun _ _ => rfl)) (pe_ix ix_tup (pv 1) pe_int (fun _ _ => rfl))) (pa_cons (pe_op op_mulW (pe_ix ix_tup (pv 0) pe_int (fun _ _ => rfl)) (pe_ix ix_tup (pv 1) pe_int (fun _ _ => rfl))) pa_nil)))))) (fun vs H Q E h => pure_of (fun ds m P E h => p_product  h) h)
theorem ok_added (F : FnX G.K "added" "added" (defArgs s_added) (defBody s_added) (defScope s_added) f fd) (hF_fraction : HasF P w G.K mg base "fraction" 2 ["number", "parts"] (SpD G.K (R_fraction G)))  : FnOk P w G.K mg base (L2.CX P w) 3 f fd ["one", "other"] (SpD G.K (R_added G)) :=
  fn_sp F sc_added (SpD.len (n := 2) (by unfold R_added; first | (rintro _ _ _ ⟨rfl, _⟩; rfl) | (rintro _ _ _ ⟨_, rfl, _⟩; rfl) | (rintro _ _ _ ⟨_, _, rfl, _⟩; rfl) | (rintro _ _ _ ⟨_, _, _, rfl, _⟩; rfl) | (rintro _ _ _ ⟨_, _, _, _, rfl, _⟩; rfl) | (rintro _ _ _ ⟨_, _, _, _, _, rfl, _⟩; rfl) | (rintro _ _ _ ⟨_, _, _, _, _, _, rfl, _⟩; rfl) | (rintro _ _ _ ⟨_, _, _, _, _, _, _, rfl, _⟩; rfl) | (rintro _ _ _ ⟨_, _, _, _, _, _, _, _, rfl, _⟩; rfl) | (rintro _ _ _ ⟨_, _, _, _, _, _, _, _, _, rfl, _⟩; rfl) | (rintro _ _ _ ⟨_, _, _, _, _, _, _, _, _, _, rfl, _⟩; rfl) | (rintro _ _ _ ⟨_, _, _, _, _, _, _, _, _, _, _, rfl, _⟩; rfl) | (rintro _ _ _ ⟨_, _, _, _, _, _, _, _, _, _, _, _, rfl, _⟩; rfl) | (rintro _ _ _ ⟨_, _, _, _, _, _, _, _, _, _, _, _, _, rfl, _⟩; rfl))) (t_added G) (fun cdv A outer s H E hr =>
    (pss_one (ps_ret (pe_callH hF_fraction (hr.mono (by decide)) pxE (pa_cons (pe_op op_add (pe_op op_mulW (pe_ix ix_tup (pv 0) pe_int (fun _ _ => rfl)) (pe_ix ix_tup (pv 1) pe_int (fun _ _ => rfl))) (pe_op op_mulW (pe_ix ix_tup (pv 1) pe_int (fun _ _ => rfl)) (pe_ix ix_tup (pv 0) pe_int (fun _ _ => rfl)))) (pa_cons (pe_op op_mulW (pe_ix ix_tup (pv 0) pe_int (fun _ _ => rfl)) (pe_ix ix_tup (pv 1) pe_int (fun _ _ => rfl))) pa_nil)))))) (fun vs H Q E h => pure_of (fun ds m P E h => p_added  h) h)
theorem ok_less (F : FnX G.K "less" "less" (defArgs s_less) (defBody s_less) (defScope s_less) f fd) (hF_fraction : HasF P w G.K mg base "fraction" 2 ["number", "parts"] (SpD G.K (R_fraction G)))  : FnOk P w G.K mg base (L2.CX P w) 3 f fd ["one", "other"] (SpD G.K (R_less G)) :=
  fn_sp F sc_less (SpD.len (n := 2) (by unfold R_less; first | (rintro _ _ _ ⟨rfl, _⟩; rfl) | (rintro _ _ _ ⟨_, rfl, _⟩; rfl) | (rintro _ _ _ ⟨_, _, rfl, _⟩; rfl) | (rintro _ _ _ ⟨_, _, _, rfl, _⟩; rfl) | (rintro _ _ _ ⟨_, _, _, _, rfl, _⟩; rfl) | (rintro _ _ _ ⟨_, _, _, _, _, rfl, _⟩; rfl) | (rintro _ _ _ ⟨_, _, _, _, _, _, rfl, _⟩; rfl) | (rintro _ _ _ ⟨_, _, _, _, _, _, _, rfl, _⟩; rfl) | (rintro _ _ _ ⟨_, _, _, _, _, _, _, _, rfl, _⟩; rfl) | (rintro _ _ _ ⟨_, _, _, _, _, _, _, _, _, rfl, _⟩; rfl) | (rintro _ _ _ ⟨_, _, _, _, _, _, _, _, _, _, rfl, _⟩; rfl) | (rintro _ _ _ ⟨_, _, _, _, _, _, _, _, _, _, _, rfl, _⟩; rfl) | (rintro _ _ _ ⟨_, _, _, _, _, _, _, _, _, _, _, _, rfl, _⟩; rfl) | (rintro _ _ _ ⟨_, _, _, _, _, _, _, _, _, _, _, _, _, rfl, _⟩; rfl))) (t_less G) (fun cdv A outer s H E hr =>
    (pss_one (ps_ret (pe_callH hF_fraction (hr.mono (by decide)) pxE (pa_cons (pe_op op_sub (pe_op op_mulW (pe_ix ix_tup (pv 0) pe_int (fun _ _ => rfl)) (pe_ix ix_tup (pv 1) pe_int (fun _ _ => rfl))) (pe_op op_mulW (pe_ix ix_tup (pv 1) pe_int (fun _ _ => rfl)) (pe_ix ix_tup (pv 0) pe_int (fun _ _ => rfl)))) (pa_cons (pe_op op_mulW (pe_ix ix_tup (pv 0) pe_int (fun _ _ => rfl)) (pe_ix ix_tup (pv 1) pe_int (fun _ _ => rfl))) pa_nil)))))) (fun vs H Q E h => pure_of (fun ds m P E h => p_less  h) h)
theorem ok_ends_of (F : FnX G.K "ends_of" "ends_of" (defArgs s_ends_of) (defBody s_ends_of) (defScope s_ends_of) f fd) (hF_product : HasF P w G.K mg base "product" 3 ["one", "other"] (SpD G.K (R_product G))) (hF_added : HasF P w G.K mg base "added" 3 ["one", "other"] (SpD G.K (R_added G))) (hF_less : HasF P w G.K mg base "less" 3 ["one", "other"] (SpD G.K (R_less G)))  : FnOk P w G.K mg base (L2.CX P w) 4 f fd ["x", "y"] (SpD G.K (R_ends_of G)) :=
  fn_sp F sc_ends_of (SpD.len (n := 2) (by unfold R_ends_of; first | (rintro _ _ _ ⟨rfl, _⟩; rfl) | (rintro _ _ _ ⟨_, rfl, _⟩; rfl) | (rintro _ _ _ ⟨_, _, rfl, _⟩; rfl) | (rintro _ _ _ ⟨_, _, _, rfl, _⟩; rfl) | (rintro _ _ _ ⟨_, _, _, _, rfl, _⟩; rfl) | (rintro _ _ _ ⟨_, _, _, _, _, rfl, _⟩; rfl) | (rintro _ _ _ ⟨_, _, _, _, _, _, rfl, _⟩; rfl) | (rintro _ _ _ ⟨_, _, _, _, _, _, _, rfl, _⟩; rfl) | (rintro _ _ _ ⟨_, _, _, _, _, _, _, _, rfl, _⟩; rfl) | (rintro _ _ _ ⟨_, _, _, _, _, _, _, _, _, rfl, _⟩; rfl) | (rintro _ _ _ ⟨_, _, _, _, _, _, _, _, _, _, rfl, _⟩; rfl) | (rintro _ _ _ ⟨_, _, _, _, _, _, _, _, _, _, _, rfl, _⟩; rfl) | (rintro _ _ _ ⟨_, _, _, _, _, _, _, _, _, _, _, _, rfl, _⟩; rfl) | (rintro _ _ _ ⟨_, _, _, _, _, _, _, _, _, _, _, _, _, rfl, _⟩; rfl))) (t_ends_of G) (fun cdv A outer s H E hr =>
    (pss_one (ps_ret (pe_callH hF_less (hr.mono (by decide)) pxE (pa_cons (pe_callH hF_added (hr.mono (by decide)) pxE (pa_cons (pv 0) (pa_cons (pv 1) pa_nil))) (pa_cons (pe_callH hF_product (hr.mono (by decide)) pxE (pa_cons (pv 0) (pa_cons (pv 1) pa_nil))) pa_nil)))))) (fun vs H Q E h => pure_of (fun ds m P E h => p_ends_of  h) h)
theorem ok_over (F : FnX G.K "over" "over" (defArgs s_over) (defBody s_over) (defScope s_over) f fd) (hF_fraction : HasF P w G.K mg base "fraction" 2 ["number", "parts"] (SpD G.K (R_fraction G)))  : FnOk P w G.K mg base (L2.CX P w) 3 f fd ["one", "other"] (SpD G.K (R_over G)) :=
  fn_sp F sc_over (SpD.len (n := 2) (by unfold R_over; first | (rintro _ _ _ ⟨rfl, _⟩; rfl) | (rintro _ _ _ ⟨_, rfl, _⟩; rfl) | (rintro _ _ _ ⟨_, _, rfl, _⟩; rfl) | (rintro _ _ _ ⟨_, _, _, rfl, _⟩; rfl) | (rintro _ _ _ ⟨_, _, _, _, rfl, _⟩; rfl) | (rintro _ _ _ ⟨_, _, _, _, _, rfl, _⟩; rfl) | (rintro _ _ _ ⟨_, _, _, _, _, _, rfl, _⟩; rfl) | (rintro _ _ _ ⟨_, _, _, _, _, _, _, rfl, _⟩; rfl) | (rintro _ _ _ ⟨_, _, _, _, _, _, _, _, rfl, _⟩; rfl) | (rintro _ _ _ ⟨_, _, _, _, _, _, _, _, _, rfl, _⟩; rfl) | (rintro _ _ _ ⟨_, _, _, _, _, _, _, _, _, _, rfl, _⟩; rfl) | (rintro _ _ _ ⟨_, _, _, _, _, _, _, _, _, _, _, rfl, _⟩; rfl) | (rintro _ _ _ ⟨_, _, _, _, _, _, _, _, _, _, _, _, rfl, _⟩; rfl) | (rintro _ _ _ ⟨_, _, _, _, _, _, _, _, _, _, _, _, _, rfl, _⟩; rfl))) (t_over G) (fun cdv A outer s H E hr =>
    (pss_one (ps_ret (pe_callH hF_fraction (hr.mono (by decide)) pxE (pa_cons (pe_op op_mulW (pe_ix ix_tup (pv 0) pe_int (fun _ _ => rfl)) (pe_ix ix_tup (pv 1) pe_int (fun _ _ => rfl))) (pa_cons (pe_op op_mulW (pe_ix ix_tup (pv 0) pe_int (fun _ _ => rfl)) (pe_ix ix_tup (pv 1) pe_int (fun _ _ => rfl))) pa_nil)))))) (fun vs H Q E h => pure_of (fun ds m P E h => p_over  h) h)
theorem ok_begun (F : FnX G.K "begun" "begun" (defArgs s_begun) (defBody s_begun) (defScope s_begun) f fd) (hF_powers : HasF P w G.K mg base "powers" 4 ["coin", "j", "k"] (SpD G.K (R_powers G))) (hF_ends_of : HasF P w G.K mg base "ends_of" 4 ["x", "y"] (SpD G.K (R_ends_of G))) (hF_over : HasF P w G.K mg base "over" 3 ["one", "other"] (SpD G.K (R_over G))) (hT_ONE : mg "ONE" = some (.ref G.vONE)) (hF_less : HasF P w G.K mg base "less" 3 ["one", "other"] (SpD G.K (R_less G))) (hF_product : HasF P w G.K mg base "product" 3 ["one", "other"] (SpD G.K (R_product G))) (hCoin : CoinOk G) (hCons : ConsOk G) : FnOk P w G.K mg base (L2.CX P w) 5 f fd ["coin", "j", "k"] (SpD G.K (R_begun G)) :=
  fn_sp F sc_begun (SpD.len (n := 3) (by unfold R_begun; first | (rintro _ _ _ ⟨rfl, _⟩; rfl) | (rintro _ _ _ ⟨_, rfl, _⟩; rfl) | (rintro _ _ _ ⟨_, _, rfl, _⟩; rfl) | (rintro _ _ _ ⟨_, _, _, rfl, _⟩; rfl) | (rintro _ _ _ ⟨_, _, _, _, rfl, _⟩; rfl) | (rintro _ _ _ ⟨_, _, _, _, _, rfl, _⟩; rfl) | (rintro _ _ _ ⟨_, _, _, _, _, _, rfl, _⟩; rfl) | (rintro _ _ _ ⟨_, _, _, _, _, _, _, rfl, _⟩; rfl) | (rintro _ _ _ ⟨_, _, _, _, _, _, _, _, rfl, _⟩; rfl) | (rintro _ _ _ ⟨_, _, _, _, _, _, _, _, _, rfl, _⟩; rfl) | (rintro _ _ _ ⟨_, _, _, _, _, _, _, _, _, _, rfl, _⟩; rfl) | (rintro _ _ _ ⟨_, _, _, _, _, _, _, _, _, _, _, rfl, _⟩; rfl) | (rintro _ _ _ ⟨_, _, _, _, _, _, _, _, _, _, _, _, rfl, _⟩; rfl) | (rintro _ _ _ ⟨_, _, _, _, _, _, _, _, _, _, _, _, _, rfl, _⟩; rfl))) (t_begun G) (fun cdv A outer s H E hr =>
    (pss_cons (ps_asg (pe_callH hF_powers (hr.mono (by decide)) pxE (pa_cons (pv 0) (pa_cons (pv 1) (pa_cons (pv 2) pa_nil)))) (pg_tup rfl (pgs_cons (pg_name (i := 3) sc_begun.nd rfl (by first | exact Or.inl rfl | exact Or.inr rfl)) (pgs_cons (pg_name (i := 4) sc_begun.nd rfl (by first | exact Or.inl rfl | exact Or.inr rfl)) pgs_nil))))
    (pss_cons (ps_set (i := 5) sc_begun.nd rfl (by first | exact Or.inl rfl | exact Or.inr rfl) (pe_callH hF_over (hr.mono (by decide)) pxE (pa_cons (pv 3) (pa_cons (pe_callH hF_ends_of (hr.mono (by decide)) pxE (pa_cons (pv 3) (pa_cons (pv 4) pa_nil))) pa_nil))))
    (pss_one (ps_ret (pe_tup (pa_cons (pv 5) (pa_cons (pe_callH hF_product (hr.mono (by decide)) pxE (pa_cons (pe_callH hF_less (hr.mono (by decide)) pxE (pa_cons (pe_glob (by rfl) hT_ONE rfl) (pa_cons (pv 4) pa_nil))) (pa_cons (pv 5) pa_nil))) pa_nil)))))))) (fun vs H Q E h => pure_of (fun ds m P E h => p_begun hCoin hCons h) h)
theorem ok_chance_by (F : FnX G.K "chance_by" "chance_by" (defArgs s_chance_by) (defBody s_chance_by) (defScope s_chance_by) f fd) (hF_begun : HasF P w G.K mg base "begun" 5 ["coin", "j", "k"] (SpD G.K (R_begun G))) (hF_product : HasF P w G.K mg base "product" 3 ["one", "other"] (SpD G.K (R_product G))) (hF_added : HasF P w G.K mg base "added" 3 ["one", "other"] (SpD G.K (R_added G))) (hF_raised : HasF P w G.K mg base "raised" 3 ["one", "times"] (SpD G.K (R_raised G))) (hT_ONE : mg "ONE" = some (.ref G.vONE)) (hF_less : HasF P w G.K mg base "less" 3 ["one", "other"] (SpD G.K (R_less G))) (hCoin : CoinOk G) (hCons : ConsOk G) : FnOk P w G.K mg base (L2.CX P w) 6 f fd ["coin", "j", "k", "state"] (SpD G.K (R_chance_by G)) :=
  fn_sp F sc_chance_by (SpD.len (n := 4) (by unfold R_chance_by; first | (rintro _ _ _ ⟨rfl, _⟩; rfl) | (rintro _ _ _ ⟨_, rfl, _⟩; rfl) | (rintro _ _ _ ⟨_, _, rfl, _⟩; rfl) | (rintro _ _ _ ⟨_, _, _, rfl, _⟩; rfl) | (rintro _ _ _ ⟨_, _, _, _, rfl, _⟩; rfl) | (rintro _ _ _ ⟨_, _, _, _, _, rfl, _⟩; rfl) | (rintro _ _ _ ⟨_, _, _, _, _, _, rfl, _⟩; rfl) | (rintro _ _ _ ⟨_, _, _, _, _, _, _, rfl, _⟩; rfl) | (rintro _ _ _ ⟨_, _, _, _, _, _, _, _, rfl, _⟩; rfl) | (rintro _ _ _ ⟨_, _, _, _, _, _, _, _, _, rfl, _⟩; rfl) | (rintro _ _ _ ⟨_, _, _, _, _, _, _, _, _, _, rfl, _⟩; rfl) | (rintro _ _ _ ⟨_, _, _, _, _, _, _, _, _, _, _, rfl, _⟩; rfl) | (rintro _ _ _ ⟨_, _, _, _, _, _, _, _, _, _, _, _, rfl, _⟩; rfl) | (rintro _ _ _ ⟨_, _, _, _, _, _, _, _, _, _, _, _, _, rfl, _⟩; rfl))) (t_chance_by G) (fun cdv A outer s H E hr =>
    (pss_cons (ps_asg (pe_callH hF_begun (hr.mono (by decide)) pxE (pa_cons (pv 0) (pa_cons (pv 1) (pa_cons (pv 2) pa_nil)))) (pg_tup rfl (pgs_cons (pg_name (i := 4) sc_chance_by.nd rfl (by first | exact Or.inl rfl | exact Or.inr rfl)) (pgs_cons (pg_name (i := 5) sc_chance_by.nd rfl (by first | exact Or.inl rfl | exact Or.inr rfl)) pgs_nil))))
    (pss_cons (ps_if (pt_cmpR op_eq (pv 3) pe_int (nomark _)) (pss_one (ps_ret (pe_callH hF_added (hr.mono (by decide)) pxE (pa_cons (pe_callH hF_product (hr.mono (by decide)) pxE (pa_cons (pe_fld (pv 0) rfl) (pa_cons (pv 4) pa_nil))) (pa_cons (pe_callH hF_product (hr.mono (by decide)) pxE (pa_cons (pe_fld (pv 0) rfl) (pa_cons (pv 5) pa_nil))) pa_nil))))) pss_nil)
    (pss_cons (ps_if (pt_cmpR op_gt (pv 3) pe_int (nomark _)) (pss_cons (ps_set (i := 6) sc_chance_by.nd rfl (by first | exact Or.inl rfl | exact Or.inr rfl) (pe_callH hF_raised (hr.mono (by decide)) pxE (pa_cons (pe_fld (pv 0) rfl) (pa_cons (pe_op op_sub (pv 1) (pv 3)) pa_nil))))
    (pss_one (ps_ret (pe_callH hF_added (hr.mono (by decide)) pxE (pa_cons (pv 6) (pa_cons (pe_callH hF_product (hr.mono (by decide)) pxE (pa_cons (pe_callH hF_less (hr.mono (by decide)) pxE (pa_cons (pe_glob (by rfl) hT_ONE rfl) (pa_cons (pv 6) pa_nil))) (pa_cons (pv 5) pa_nil))) pa_nil)))))) pss_nil)
    (pss_one (ps_ret (pe_callH hF_product (hr.mono (by decide)) pxE (pa_cons (pe_callH hF_less (hr.mono (by decide)) pxE (pa_cons (pe_glob (by rfl) hT_ONE rfl) (pa_cons (pe_callH hF_raised (hr.mono (by decide)) pxE (pa_cons (pe_fld (pv 0) rfl) (pa_cons (pe_op op_add (pv 2) (pv 3)) pa_nil))) pa_nil))) (pa_cons (pv 4) pa_nil))))))))) (fun vs H Q E h => pure_of (fun ds m P E h => p_chance_by hCoin hCons h) h)
theorem ok_chances (F : FnX G.K "chances" "chances" (defArgs s_chances) (defBody s_chances) (defScope s_chances) f fd) (hI_MOST_RUN : ∃ t, mg "MOST_RUN" = some (.int 40 t)) (hF_need_runs : HasF P w G.K mg base "need_runs" 4 ["j", "k", "most"] (SpD G.K (R_need_runs G))) (hN_range : mg "range" = none) (hF_chance_by : HasF P w G.K mg base "chance_by" 6 ["coin", "j", "k", "state"] (SpD G.K (R_chance_by G)))  : FnOk P w G.K mg base (L2.CX P w) 7 f fd ["coin", "j", "k"] (SpD G.K (R_chances G)) :=
  fn_sp F sc_chances (SpD.len (n := 3) (by unfold R_chances; first | (rintro _ _ _ ⟨rfl, _⟩; rfl) | (rintro _ _ _ ⟨_, rfl, _⟩; rfl) | (rintro _ _ _ ⟨_, _, rfl, _⟩; rfl) | (rintro _ _ _ ⟨_, _, _, rfl, _⟩; rfl) | (rintro _ _ _ ⟨_, _, _, _, rfl, _⟩; rfl) | (rintro _ _ _ ⟨_, _, _, _, _, rfl, _⟩; rfl) | (rintro _ _ _ ⟨_, _, _, _, _, _, rfl, _⟩; rfl) | (rintro _ _ _ ⟨_, _, _, _, _, _, _, rfl, _⟩; rfl) | (rintro _ _ _ ⟨_, _, _, _, _, _, _, _, rfl, _⟩; rfl) | (rintro _ _ _ ⟨_, _, _, _, _, _, _, _, _, rfl, _⟩; rfl) | (rintro _ _ _ ⟨_, _, _, _, _, _, _, _, _, _, rfl, _⟩; rfl) | (rintro _ _ _ ⟨_, _, _, _, _, _, _, _, _, _, _, rfl, _⟩; rfl) | (rintro _ _ _ ⟨_, _, _, _, _, _, _, _, _, _, _, _, rfl, _⟩; rfl) | (rintro _ _ _ ⟨_, _, _, _, _, _, _, _, _, _, _, _, _, rfl, _⟩; rfl))) (t_chances G) (fun cdv A outer s H E hr =>
    (pss_cons (ps_expr (pe_callH hF_need_runs (hr.mono (by decide)) pxE (pa_cons (pv 1) (pa_cons (pv 2) (pa_cons (pe_glob (by rfl) hI_MOST_RUN.choose_spec ⟨_, rfl⟩) pa_nil)))))
    (pss_one (ps_ret (pe_dc (own := [("state", 3)]) (g := (gName 3)) (tt := tYes) rfl sc_chances.nd (pi_range2 rfl hN_range (pa_cons (pe_op op_sub pe_int (pv 2)) (pa_cons (pv 1) pa_nil))) (blkOk_by (own := [("state", 3)]) (by rfl)) (fun _ _ _ _ _ => (pg_name (i := 3) sc_chances.nd rfl (by first | exact Or.inl rfl | exact Or.inr rfl))) (fun _ _ _ _ _ => pts_nil) (fun _ _ _ _ _ => (pv 3)) (fun _ _ _ _ _ => (pe_callH hF_chance_by (hr.mono (by decide)) passL (pa_cons (pv 0) (pa_cons (pv 1) (pa_cons (pv 2) (pa_cons (pv 3) pa_nil))))))))))) (fun vs H Q E h => pure_of (fun ds m P E h => p_chances  h) h)
theorem ok_is_fraction (F : FnX G.K "is_fraction" "is_fraction" (defArgs s_is_fraction) (defBody s_is_fraction) (defScope s_is_fraction) f fd) (hN_tuple : mg "tuple" = none) (hN_isinstance : mg "isinstance" = none) (hN_len : mg "len" = none) (hF_is_whole : HasF P w G.K mg base "is_whole" 1 ["value"] (SpD G.K (R_is_whole G))) (hF_common : HasF P w G.K mg base "common" 1 ["one", "other"] (SpD G.K (R_common G)))  : FnOk P w G.K mg base (L2.CX P w) 2 f fd ["value"] (SpD G.K (R_is_fraction G)) :=
  fn_sp F sc_is_fraction (SpD.len (n := 1) (by unfold R_is_fraction; first | (rintro _ _ _ ⟨rfl, _⟩; rfl) | (rintro _ _ _ ⟨_, rfl, _⟩; rfl) | (rintro _ _ _ ⟨_, _, rfl, _⟩; rfl) | (rintro _ _ _ ⟨_, _, _, rfl, _⟩; rfl) | (rintro _ _ _ ⟨_, _, _, _, rfl, _⟩; rfl) | (rintro _ _ _ ⟨_, _, _, _, _, rfl, _⟩; rfl) | (rintro _ _ _ ⟨_, _, _, _, _, _, rfl, _⟩; rfl) | (rintro _ _ _ ⟨_, _, _, _, _, _, _, rfl, _⟩; rfl) | (rintro _ _ _ ⟨_, _, _, _, _, _, _, _, rfl, _⟩; rfl) | (rintro _ _ _ ⟨_, _, _, _, _, _, _, _, _, rfl, _⟩; rfl) | (rintro _ _ _ ⟨_, _, _, _, _, _, _, _, _, _, rfl, _⟩; rfl) | (rintro _ _ _ ⟨_, _, _, _, _, _, _, _, _, _, _, rfl, _⟩; rfl) | (rintro _ _ _ ⟨_, _, _, _, _, _, _, _, _, _, _, _, rfl, _⟩; rfl) | (rintro _ _ _ ⟨_, _, _, _, _, _, _, _, _, _, _, _, _, rfl, _⟩; rfl))) (t_is_fraction G) (fun cdv A outer s H E hr =>
    (pss_cons (ps_if (PW.pt (pw_or (pt_not (pt_val (pe_callB call_isi (by rfl) hN_isinstance (by decide +kernel) (pa_cons (pv 0) (pa_cons (pe_bltn (by rfl) hN_tuple (by decide +kernel) rfl) pa_nil))))) (pw_or (pt_cmpR op_ne (pe_callB call_len (by rfl) hN_len (by decide +kernel) (pa_cons (pv 0) pa_nil)) pe_int (nomark _)) (pw_or (pt_not (pt_val (pe_callH hF_is_whole (hr.mono (by decide)) pxE (pa_cons (pe_ix ix_tup (pv 0) pe_int (fun _ _ => rfl)) pa_nil)))) (pw_or1 (pt_not (pt_val (pe_callH hF_is_whole (hr.mono (by decide)) pxE (pa_cons (pe_ix ix_tup (pv 0) pe_int (fun _ _ => rfl)) pa_nil))))))))) (pss_one (ps_ret pe_bl)) pss_nil)
    (pss_one (ps_ret (pe_and (pe_cmpR op_gt (pe_ix ix_tup (pv 0) pe_int (fun _ _ => rfl)) pe_int (nomark _)) (pe_one (pe_cmpR op_eq (pe_callH hF_common (hr.mono (by decide)) pxE (pa_cons (pe_ix ix_tup (pv 0) pe_int (fun _ _ => rfl)) (pa_cons (pe_ix ix_tup (pv 0) pe_int (fun _ _ => rfl)) pa_nil))) pe_int (nomark _)))))))) (fun vs H Q E h => pure_of (fun ds m P E h => p_is_fraction  h) h)
theorem ok_shows (F : FnX G.K "shows" "shows" (defArgs s_shows) (defBody s_shows) (defScope s_shows) f fd) (hF_chances : HasF P w G.K mg base "chances" 7 ["coin", "j", "k"] (SpD G.K (R_chances G))) (hN_dict : mg "dict" = none) (hN_isinstance : mg "isinstance" = none) (hN_len : mg "len" = none) (hF_is_fraction : HasF P w G.K mg base "is_fraction" 2 ["value"] (SpD G.K (R_is_fraction G))) (hF_is_whole : HasF P w G.K mg base "is_whole" 1 ["value"] (SpD G.K (R_is_whole G))) (hN_all : mg "all" = none)  : FnOk P w G.K mg base (L2.CX P w) 8 f fd ["coin", "j", "k", "value"] (SpD G.K (R_shows G)) :=
  fn_sp F sc_shows (SpD.len (n := 4) (by unfold R_shows; first | (rintro _ _ _ ⟨rfl, _⟩; rfl) | (rintro _ _ _ ⟨_, rfl, _⟩; rfl) | (rintro _ _ _ ⟨_, _, rfl, _⟩; rfl) | (rintro _ _ _ ⟨_, _, _, rfl, _⟩; rfl) | (rintro _ _ _ ⟨_, _, _, _, rfl, _⟩; rfl) | (rintro _ _ _ ⟨_, _, _, _, _, rfl, _⟩; rfl) | (rintro _ _ _ ⟨_, _, _, _, _, _, rfl, _⟩; rfl) | (rintro _ _ _ ⟨_, _, _, _, _, _, _, rfl, _⟩; rfl) | (rintro _ _ _ ⟨_, _, _, _, _, _, _, _, rfl, _⟩; rfl) | (rintro _ _ _ ⟨_, _, _, _, _, _, _, _, _, rfl, _⟩; rfl) | (rintro _ _ _ ⟨_, _, _, _, _, _, _, _, _, _, rfl, _⟩; rfl) | (rintro _ _ _ ⟨_, _, _, _, _, _, _, _, _, _, _, rfl, _⟩; rfl) | (rintro _ _ _ ⟨_, _, _, _, _, _, _, _, _, _, _, _, rfl, _⟩; rfl) | (rintro _ _ _ ⟨_, _, _, _, _, _, _, _, _, _, _, _, _, rfl, _⟩; rfl))) (t_shows G) (fun cdv A outer s H E hr =>
    (pss_cons (ps_set (i := 4) sc_shows.nd rfl (by first | exact Or.inl rfl | exact Or.inr rfl) (pe_callH hF_chances (hr.mono (by decide)) pxE (pa_cons (pv 0) (pa_cons (pv 1) (pa_cons (pv 2) pa_nil)))))
    (pss_cons (ps_if (PW.pt (pw_or (pt_not (pt_val (pe_callB call_isiX (by rfl) hN_isinstance (by decide +kernel) (pa_cons (pv 3) (pa_cons (pe_bltn (by rfl) hN_dict (by decide +kernel) rfl) pa_nil))))) (pw_or1 (pt_cmpR op_ne (pe_callB call_lenDX (by rfl) hN_len (by decide +kernel) (pa_cons (pv 3) pa_nil)) (pe_callB call_lenDX (by rfl) hN_len (by decide +kernel) (pa_cons (pv 4) pa_nil)) (nomark _))))) (pss_one (ps_ret pe_bl)) pss_nil)
    (pss_cons (ps_lock (ps_for (passes_of rfl) rfl (pi_items (pv 4)) (pg_tup rfl (pgs_cons (pg_name (i := 5) sc_shows.nd rfl (by first | exact Or.inl rfl | exact Or.inr rfl)) (pgs_cons (pg_name (i := 6) sc_shows.nd rfl (by first | exact Or.inl rfl | exact Or.inr rfl)) pgs_nil))) (pss_one (ps_if (PW.pt (pw_or (pt_cmp (pc_dnotin (hu_of hr) (pv 5) (pv 3))) (pw_or (pt_not (pt_val (pe_callH hF_is_fraction (hr.mono (by decide)) pxE (pa_cons (pe_dget (hu_of hr) (pv 3) (pv 5) (fun _ _ => rfl)) pa_nil)))) (pw_or1 (pt_cmpR (op_neD hr.units) (pe_dget (hu_of hr) (pv 3) (pv 5) (fun _ _ => rfl)) (pv 6) (nomark _)))))) (pss_one (ps_ret pe_bl)) pss_nil))))
    (pss_one (ps_ret (pe_callB (cr_all rfl) (by rfl) hN_all (by decide +kernel) (pa_cons (pe_lock (pe_lc (own := [("one", 6)]) (g := (gName 6)) (tt := tYes) rfl sc_shows.nd (pi_keys (pv 3)) (blkOk_by (own := [("one", 6)]) (by rfl)) (fun _ _ _ _ _ => (pg_name (i := 6) sc_shows.nd rfl (by first | exact Or.inl rfl | exact Or.inr rfl))) (fun _ _ _ _ _ => pts_nil) (fun _ _ _ _ _ => (pe_callH hF_is_whole (hr.mono (by decide)) passL (pa_cons (pv 6) pa_nil))))) pa_nil)))))))) (fun vs H Q E h => pure_of (fun ds m P E h => p_shows  h) h)
theorem ok__law_frac (F : FnX G.K "_law_frac" "_law_frac" (defArgs s__law_frac) (defBody s__law_frac) (defScope s__law_frac) f fd) (hN_abs : mg "abs" = none)  : FnOk P w G.K mg base (L2.CX P w) 1 f fd ["_law_number", "_law_parts"] (SpD G.K (R__law_frac G)) :=
  fn_sp F sc__law_frac (SpD.len (n := 2) (by unfold R__law_frac; first | (rintro _ _ _ ⟨rfl, _⟩; rfl) | (rintro _ _ _ ⟨_, rfl, _⟩; rfl) | (rintro _ _ _ ⟨_, _, rfl, _⟩; rfl) | (rintro _ _ _ ⟨_, _, _, rfl, _⟩; rfl) | (rintro _ _ _ ⟨_, _, _, _, rfl, _⟩; rfl) | (rintro _ _ _ ⟨_, _, _, _, _, rfl, _⟩; rfl) | (rintro _ _ _ ⟨_, _, _, _, _, _, rfl, _⟩; rfl) | (rintro _ _ _ ⟨_, _, _, _, _, _, _, rfl, _⟩; rfl) | (rintro _ _ _ ⟨_, _, _, _, _, _, _, _, rfl, _⟩; rfl) | (rintro _ _ _ ⟨_, _, _, _, _, _, _, _, _, rfl, _⟩; rfl) | (rintro _ _ _ ⟨_, _, _, _, _, _, _, _, _, _, rfl, _⟩; rfl) | (rintro _ _ _ ⟨_, _, _, _, _, _, _, _, _, _, _, rfl, _⟩; rfl) | (rintro _ _ _ ⟨_, _, _, _, _, _, _, _, _, _, _, _, rfl, _⟩; rfl) | (rintro _ _ _ ⟨_, _, _, _, _, _, _, _, _, _, _, _, _, rfl, _⟩; rfl))) (t__law_frac G) (fun cdv A outer s H E hr =>
    (pss_cons (ps_par (i := 2) (j := 3) (by rfl) sc__law_frac.nd rfl rfl (by decide) rfl rfl (pa_cons (pe_callB call_abs (by rfl) hN_abs (by decide +kernel) (pa_cons (pv 0) pa_nil)) (pa_cons (pv 1) pa_nil)) (by rfl))
    (pss_cons (ps_while (passes_of rfl) (pt_cmpR op_gt (pv 3) pe_int (nomark _)) (pss_one (ps_par (i := 2) (j := 3) (by rfl) sc__law_frac.nd rfl rfl (by decide) rfl rfl (pa_cons (pv 3) (pa_cons (pe_op op_mod (pv 2) (pv 3)) pa_nil)) (by rfl))))
    (pss_one (ps_ret (pe_tup (pa_cons (pe_op op_fdivW (pv 0) (pv 2)) (pa_cons (pe_op op_fdivW (pv 1) (pv 2)) pa_nil)))))))) (fun vs H Q E h => pure_of (fun ds m P E h => p__law_frac  h) h)
theorem ok__law_sum (F : FnX G.K "_law_sum" "_law_sum" (defArgs s__law_sum) (defBody s__law_sum) (defScope s__law_sum) f fd) (hF__law_frac : HasF P w G.K mg base "_law_frac" 1 ["_law_number", "_law_parts"] (SpD G.K (R__law_frac G)))  : FnOk P w G.K mg base (L2.CX P w) 2 f fd ["_law_one", "_law_mate"] (SpD G.K (R__law_sum G)) :=
  fn_sp F sc__law_sum (SpD.len (n := 2) (by unfold R__law_sum; first | (rintro _ _ _ ⟨rfl, _⟩; rfl) | (rintro _ _ _ ⟨_, rfl, _⟩; rfl) | (rintro _ _ _ ⟨_, _, rfl, _⟩; rfl) | (rintro _ _ _ ⟨_, _, _, rfl, _⟩; rfl) | (rintro _ _ _ ⟨_, _, _, _, rfl, _⟩; rfl) | (rintro _ _ _ ⟨_, _, _, _, _, rfl, _⟩; rfl) | (rintro _ _ _ ⟨_, _, _, _, _, _, rfl, _⟩; rfl) | (rintro _ _ _ ⟨_, _, _, _, _, _, _, rfl, _⟩; rfl) | (rintro _ _ _ ⟨_, _, _, _, _, _, _, _, rfl, _⟩; rfl) | (rintro _ _ _ ⟨_, _, _, _, _, _, _, _, _, rfl, _⟩; rfl) | (rintro _ _ _ ⟨_, _, _, _, _, _, _, _, _, _, rfl, _⟩; rfl) | (rintro _ _ _ ⟨_, _, _, _, _, _, _, _, _, _, _, rfl, _⟩; rfl) | (rintro _ _ _ ⟨_, _, _, _, _, _, _, _, _, _, _, _, rfl, _⟩; rfl) | (rintro _ _ _ ⟨_, _, _, _, _, _, _, _, _, _, _, _, _, rfl, _⟩; rfl))) (t__law_sum G) (fun cdv A outer s H E hr =>
    (pss_one (ps_ret (pe_callH hF__law_frac (hr.mono (by decide)) pxE (pa_cons (pe_op op_add (pe_op op_mulW (pe_ix ix_tup (pv 0) pe_int (fun _ _ => rfl)) (pe_ix ix_tup (pv 1) pe_int (fun _ _ => rfl))) (pe_op op_mulW (pe_ix ix_tup (pv 1) pe_int (fun _ _ => rfl)) (pe_ix ix_tup (pv 0) pe_int (fun _ _ => rfl)))) (pa_cons (pe_op op_mulW (pe_ix ix_tup (pv 0) pe_int (fun _ _ => rfl)) (pe_ix ix_tup (pv 1) pe_int (fun _ _ => rfl))) pa_nil)))))) (fun vs H Q E h => pure_of (fun ds m P E h => p__law_sum  h) h)
theorem ok__law_bent (F : FnX G.K "_law_bent" "_law_bent" (defArgs s__law_bent) (defBody s__law_bent) (defScope s__law_bent) f fd) (hF__law_taken : HasF P w G.K mg base "_law_taken" 1 ["_law_row", "_law_many"] (SpD G.K (R__law_taken G))) (hN_list : mg "list" = none) (hN_len : mg "len" = none) (hN_dict : mg "dict" = none) (hF__law_sum : HasF P w G.K mg base "_law_sum" 2 ["_law_one", "_law_mate"] (SpD G.K (R__law_sum G)))  : FnOk P w G.K mg base (L2.CX P w) 3 f fd ["_law_row", "_law_known"] (SpD G.K (R__law_bent G)) :=
  fn_sp F sc__law_bent (SpD.len (n := 2) (by unfold R__law_bent; first | (rintro _ _ _ ⟨rfl, _⟩; rfl) | (rintro _ _ _ ⟨_, rfl, _⟩; rfl) | (rintro _ _ _ ⟨_, _, rfl, _⟩; rfl) | (rintro _ _ _ ⟨_, _, _, rfl, _⟩; rfl) | (rintro _ _ _ ⟨_, _, _, _, rfl, _⟩; rfl) | (rintro _ _ _ ⟨_, _, _, _, _, rfl, _⟩; rfl) | (rintro _ _ _ ⟨_, _, _, _, _, _, rfl, _⟩; rfl) | (rintro _ _ _ ⟨_, _, _, _, _, _, _, rfl, _⟩; rfl) | (rintro _ _ _ ⟨_, _, _, _, _, _, _, _, rfl, _⟩; rfl) | (rintro _ _ _ ⟨_, _, _, _, _, _, _, _, _, rfl, _⟩; rfl) | (rintro _ _ _ ⟨_, _, _, _, _, _, _, _, _, _, rfl, _⟩; rfl) | (rintro _ _ _ ⟨_, _, _, _, _, _, _, _, _, _, _, rfl, _⟩; rfl) | (rintro _ _ _ ⟨_, _, _, _, _, _, _, _, _, _, _, _, rfl, _⟩; rfl) | (rintro _ _ _ ⟨_, _, _, _, _, _, _, _, _, _, _, _, _, rfl, _⟩; rfl))) (t__law_bent G) (fun cdv A outer s H E hr =>
    (pss_cons (ps_par (i := 2) (j := 3) (by rfl) sc__law_bent.nd rfl rfl (by decide) rfl rfl (pa_cons (pe_ix ix_list (pe_callTy (call_list_dK rfl) (by rfl) hN_list (by decide +kernel) (pa_cons (pv 1) pa_nil)) (pe_callH hF__law_taken (hr.mono (by decide)) pxE (pa_cons (pv 0) (pa_cons (pe_callB call_lenDX (by rfl) hN_len (by decide +kernel) (pa_cons (pv 1) pa_nil)) pa_nil))) (fun _ _ => rfl)) (pa_cons (pe_callH hF__law_taken (hr.mono (by decide)) pxE (pa_cons (pv 0) (pa_cons pe_int pa_nil))) pa_nil)) (by rfl))
    (pss_cons (ps_par (i := 4) (j := 5) (by rfl) sc__law_bent.nd rfl rfl (by decide) rfl rfl (pa_cons (pe_callTy call_dictD (by rfl) hN_dict (by decide +kernel) (pa_cons (pv 1) pa_nil)) (pa_cons (pe_dget (hu_of hr) (pv 1) (pv 2) (fun _ _ => rfl)) pa_nil)) (by rfl))
    (pss_cons (ps_if (pt_cmpR op_eq (pv 3) pe_int (nomark _)) (pss_one (ps_dputX (hu_of hr) (pv 4) (pv 2) (pe_callH hF__law_sum (hr.mono (by decide)) pxE (pa_cons (pv 5) (pa_cons (pe_tup (pa_cons pe_int (pa_cons pe_int pa_nil))) pa_nil))) rfl)) (pss_one (ps_if (pt_cmpR op_eq (pv 3) pe_int (nomark _)) (pss_one (ps_dputX (hu_of hr) (pv 4) (pv 2) (pe_tup (pa_cons (pe_op op_mulW pe_int (pe_ix ix_tup (pv 5) pe_int (fun _ _ => rfl))) (pa_cons (pe_op op_mulW pe_int (pe_ix ix_tup (pv 5) pe_int (fun _ _ => rfl))) pa_nil))) rfl)) (pss_one (ps_if (pt_cmpR op_eq (pv 3) pe_int (nomark _)) (pss_one (ps_dputX (hu_of hr) (pv 4) (pv 2) (pe_ix ix_list (pe_lst (pa_cons pe_non (pa_cons pe_int (pa_cons (pe_callTy call_list_of (by rfl) hN_list (by decide +kernel) (pa_cons (pv 5) pa_nil)) (pa_cons pe_str (pa_cons (pe_tup (pa_cons pe_int pa_nil)) (pa_cons (pe_op op_catA (pv 5) (pe_tup (pa_cons pe_int pa_nil))) pa_nil))))))) (pe_callH hF__law_taken (hr.mono (by decide)) pxE (pa_cons (pv 0) (pa_cons pe_int pa_nil))) (fun _ _ => rfl)) rfl)) (pss_one (ps_if (pt_cmpR op_eq (pv 3) pe_int (nomark _)) (pss_one (ps_expr (pe_dpop1 (pv 4) (pv 2) ⟨rfl, rfl, rfl, rfl⟩))) (pss_one (ps_dputX (hu_of hr) (pv 4) (pe_ix ix_list (pe_lst (pa_cons pe_str (pa_cons pe_int (pa_cons pe_non (pa_cons (pe_tup (pa_cons pe_int pa_nil)) pa_nil))))) (pe_callH hF__law_taken (hr.mono (by decide)) pxE (pa_cons (pv 0) (pa_cons pe_int pa_nil))) (fun _ _ => rfl)) (pv 5) rfl)))))))))
    (pss_one (ps_ret (pv 4))))))) (fun vs H Q E h => pure_of (fun ds m P E h => p__law_bent  h) h)
theorem ok__law_refused_k06 (F : FnX G.K "_law_refused" "_law_refused" (defArgs s__law_refused_k06) (defBody s__law_refused_k06) (defScope s__law_refused_k06) f fd) (hF_shows : HasF P w G.K mg base "shows" 8 ["coin", "j", "k", "value"] (SpD G.K (R_shows G))) (hF_chances : HasF P w G.K mg base "chances" 7 ["coin", "j", "k"] (SpD G.K (R_chances G))) (hX_BadRun : XfC G.K G.cBadRun) (hY_BadRun_value : PySem.W.findIn G.K (.ref G.cBadRun) "value" = some none) (hG_BadRun : mg "BadRun" = some (.ref G.cBadRun)) (hxBR : PySem.W.exmOne G.K (.ref G.cBadRun) (.ref G.cBadRun) = some true) : FnOk P w G.K mg base (L2.CX P w) 9 f fd ["_law_coin", "_law_j", "_law_k", "_law_kind"] (SpD G.K (R__law_refused_k06 G)) :=
  fn_sp F sc__law_refused_k06 (SpD.len (n := 4) (by unfold R__law_refused_k06; first | (rintro _ _ _ ⟨rfl, _⟩; rfl) | (rintro _ _ _ ⟨_, rfl, _⟩; rfl) | (rintro _ _ _ ⟨_, _, rfl, _⟩; rfl) | (rintro _ _ _ ⟨_, _, _, rfl, _⟩; rfl) | (rintro _ _ _ ⟨_, _, _, _, rfl, _⟩; rfl) | (rintro _ _ _ ⟨_, _, _, _, _, rfl, _⟩; rfl) | (rintro _ _ _ ⟨_, _, _, _, _, _, rfl, _⟩; rfl) | (rintro _ _ _ ⟨_, _, _, _, _, _, _, rfl, _⟩; rfl) | (rintro _ _ _ ⟨_, _, _, _, _, _, _, _, rfl, _⟩; rfl) | (rintro _ _ _ ⟨_, _, _, _, _, _, _, _, _, rfl, _⟩; rfl) | (rintro _ _ _ ⟨_, _, _, _, _, _, _, _, _, _, rfl, _⟩; rfl) | (rintro _ _ _ ⟨_, _, _, _, _, _, _, _, _, _, _, rfl, _⟩; rfl) | (rintro _ _ _ ⟨_, _, _, _, _, _, _, _, _, _, _, _, rfl, _⟩; rfl) | (rintro _ _ _ ⟨_, _, _, _, _, _, _, _, _, _, _, _, _, rfl, _⟩; rfl))) (t__law_refused_k06 G) (fun cdv A outer s H E hr =>
    (pss_cons (ps_set (i := 4) sc__law_refused_k06.nd rfl (by first | exact Or.inl rfl | exact Or.inr rfl) pe_non)
    (pss_cons (ps_tryG rfl rfl sc__law_refused_k06.nd tkE (fun W pn xe tk _ => (pss_one (ps_if (pt_cmpR op_eq (pv 3) pe_int (nomark _)) (pss_one (ps_expr (pe_callH hF_shows (hr.mono (by decide)) (passesN tk rfl) (pa_cons (pv 0) (pa_cons (pv 1) (pa_cons (pv 2) (pa_cons pe_dnewK pa_nil))))))) (pss_one (ps_expr (pe_callH hF_chances (hr.mono (by decide)) (passesN tk rfl) (pa_cons (pv 0) (pa_cons (pv 1) (pa_cons (pv 2) pa_nil))))))))) (HdsG.named (i := 5) ⟨rfl, by decide, .inl hG_BadRun⟩ rfl rfl (fun a oe cls d pn hz hf => (pss_one (ps_set (i := 4) sc__law_refused_k06.nd rfl (by first | exact Or.inl rfl | exact Or.inr rfl) (pe_lst (pa_cons pe_str (pa_cons (pe_xf hX_BadRun hY_BadRun_value hz hf (pv 5)) pa_nil)))))) HdsG.nil))
    (pss_one (ps_ret (pv 4)))))) (fun vs H Q E h => pure_of (fun ds m P E h => p__law_refused_k06 hxBR h) h)
theorem ok_law_k06 (F : FnX G.K "law" "law" (defArgs s_law_k06) (defBody s_law_k06) (defScope s_law_k06) f fd) (hF__law_runs : HasF P w G.K mg base "_law_runs" 2 ["_law_row", "_law_most"] (SpD G.K (R__law_runs G))) (hF__law_drawn : HasF P w G.K mg base "_law_drawn" 2 ["_law_row"] (SpD G.K (R__law_drawn G))) (hC_Coin : HasC P w G.K mg base "Coin" G.cCoin 3 ["self", "heads", "tails"] (SpD G.K (R_Coin_init G))) (hF_chances : HasF P w G.K mg base "chances" 7 ["coin", "j", "k"] (SpD G.K (R_chances G))) (hN_list : mg "list" = none) (hN_dict : mg "dict" = none) (hF_shows : HasF P w G.K mg base "shows" 8 ["coin", "j", "k", "value"] (SpD G.K (R_shows G))) (hF__law_bent : HasF P w G.K mg base "_law_bent" 3 ["_law_row", "_law_known"] (SpD G.K (R__law_bent G))) (hN_len : mg "len" = none) (hF__law_taken : HasF P w G.K mg base "_law_taken" 1 ["_law_row", "_law_many"] (SpD G.K (R__law_taken G))) (hF__law_refused : HasF P w G.K mg base "_law_refused" 9 ["_law_coin", "_law_j", "_law_k", "_law_kind"] (SpD G.K (R__law_refused_k06 G)))  : FnOk P w G.K mg base (L2.CX P w) 10 f fd ["_law_script"] (SpD G.K (R_law G)) :=
  fn_sp F sc_law_k06 (SpD.len (n := 1) (by unfold R_law; first | (rintro _ _ _ ⟨rfl, _⟩; rfl) | (rintro _ _ _ ⟨_, rfl, _⟩; rfl) | (rintro _ _ _ ⟨_, _, rfl, _⟩; rfl) | (rintro _ _ _ ⟨_, _, _, rfl, _⟩; rfl) | (rintro _ _ _ ⟨_, _, _, _, rfl, _⟩; rfl) | (rintro _ _ _ ⟨_, _, _, _, _, rfl, _⟩; rfl) | (rintro _ _ _ ⟨_, _, _, _, _, _, rfl, _⟩; rfl) | (rintro _ _ _ ⟨_, _, _, _, _, _, _, rfl, _⟩; rfl) | (rintro _ _ _ ⟨_, _, _, _, _, _, _, _, rfl, _⟩; rfl) | (rintro _ _ _ ⟨_, _, _, _, _, _, _, _, _, rfl, _⟩; rfl) | (rintro _ _ _ ⟨_, _, _, _, _, _, _, _, _, _, rfl, _⟩; rfl) | (rintro _ _ _ ⟨_, _, _, _, _, _, _, _, _, _, _, rfl, _⟩; rfl) | (rintro _ _ _ ⟨_, _, _, _, _, _, _, _, _, _, _, _, rfl, _⟩; rfl) | (rintro _ _ _ ⟨_, _, _, _, _, _, _, _, _, _, _, _, _, rfl, _⟩; rfl))) (t_law_k06 G) (fun cdv A outer s H E hr =>
    (pss_cons (ps_set (i := 1) sc_law_k06.nd rfl (by first | exact Or.inl rfl | exact Or.inr rfl) (pe_lst (pa_cons (pv 0) (pa_cons pe_int (pa_cons pe_int (pa_cons pe_int pa_nil))))))
    (pss_cons (ps_par (i := 2) (j := 3) (by rfl) sc_law_k06.nd rfl rfl (by decide) rfl rfl (pa_cons (pe_callH hF__law_drawn (hr.mono (by decide)) pxE (pa_cons (pv 1) pa_nil)) (pa_cons (pe_callH hF__law_runs (hr.mono (by decide)) pxE (pa_cons (pv 1) (pa_cons pe_int pa_nil))) pa_nil)) (by rfl))
    (pss_cons (ps_par3 (i := 4) (j := 5) (l := 6) (by rfl) sc_law_k06.nd rfl rfl rfl (by decide) (by decide) (by decide) rfl rfl rfl (pa_cons (pe_makeH hC_Coin (hr.mono (by decide)) pxE (pa_cons (pe_ix ix_tup (pv 2) pe_int (fun _ _ => rfl)) (pa_cons (pe_ix ix_tup (pv 2) pe_int (fun _ _ => rfl)) pa_nil))) (pa_cons (pe_ix ix_list (pv 3) pe_int (fun _ _ => rfl)) (pa_cons (pe_ix ix_list (pv 3) pe_int (fun _ _ => rfl)) pa_nil))) (by rfl))
    (pss_cons (ps_set (i := 7) sc_law_k06.nd rfl (by first | exact Or.inl rfl | exact Or.inr rfl) (pe_callH hF_chances (hr.mono (by decide)) pxE (pa_cons (pv 4) (pa_cons (pv 5) (pa_cons (pv 6) pa_nil)))))
    (pss_cons (ps_set (i := 8) sc_law_k06.nd rfl (by first | exact Or.inl rfl | exact Or.inr rfl) (pe_callTy (call_dictPr rfl) (by rfl) hN_dict (by decide +kernel) (pa_cons (pe_lc (own := [("_law_state", 9)]) (g := (gName 9)) (tt := tYes) rfl sc_law_k06.nd (pi_list (pe_revL (pe_callTy (call_list_dK rfl) (by rfl) hN_list (by decide +kernel) (pa_cons (pv 7) pa_nil)))) (blkOk_by (own := [("_law_state", 9)]) (by rfl)) (fun _ _ _ _ _ => (pg_name (i := 9) sc_law_k06.nd rfl (by first | exact Or.inl rfl | exact Or.inr rfl))) (fun _ _ _ _ _ => pts_nil) (fun _ _ _ _ _ => (pe_tup (pa_cons (pv 9) (pa_cons (pe_dget (hu_of hr) (pv 7) (pv 9) (fun _ _ => rfl)) pa_nil))))) pa_nil)))
    (pss_cons (ps_if (PW.pt (pw_or (pt_not (pt_val (pe_callH hF_shows (hr.mono (by decide)) pxE (pa_cons (pv 4) (pa_cons (pv 5) (pa_cons (pv 6) (pa_cons (pv 7) pa_nil))))))) (pw_or1 (pt_not (pt_val (pe_callH hF_shows (hr.mono (by decide)) pxE (pa_cons (pv 4) (pa_cons (pv 5) (pa_cons (pv 6) (pa_cons (pv 8) pa_nil)))))))))) (pss_one (ps_ret pe_bl)) pss_nil)
    (pss_cons (ps_if (PW.pt (pw_or (pt_val (pe_callH hF_shows (hr.mono (by decide)) pxE (pa_cons (pv 4) (pa_cons (pv 5) (pa_cons (pv 6) (pa_cons (pe_callH hF__law_bent (hr.mono (by decide)) pxE (pa_cons (pv 1) (pa_cons (pv 7) pa_nil))) pa_nil)))))) (pw_or1 (pt_val (pe_callH hF_shows (hr.mono (by decide)) pxE (pa_cons (pv 4) (pa_cons (pv 5) (pa_cons (pv 6) (pa_cons (pe_callH hF__law_bent (hr.mono (by decide)) pxE (pa_cons (pv 1) (pa_cons (pv 7) pa_nil))) pa_nil))))))))) (pss_one (ps_ret pe_bl)) pss_nil)
    (pss_cons (ps_set (i := 10) sc_law_k06.nd rfl (by first | exact Or.inl rfl | exact Or.inr rfl) (pe_lst (pa_cons pe_non (pa_cons (LiI.pe_listItems rfl (pv 7) (by rfl) hN_list (by rfl)) (pa_cons (pe_tup pa_nil) (pa_cons pe_dnewK (pa_cons pe_str (pa_cons pe_int pa_nil))))))))
    (pss_cons (ps_if (pt_val (pe_callH hF_shows (hr.mono (by decide)) pxE (pa_cons (pv 4) (pa_cons (pv 5) (pa_cons (pv 6) (pa_cons (pe_ix ix_list (pv 10) (pe_callH hF__law_taken (hr.mono (by decide)) pxE (pa_cons (pv 1) (pa_cons (pe_callB call_len (by rfl) hN_len (by decide +kernel) (pa_cons (pv 10) pa_nil)) pa_nil))) (fun _ _ => rfl)) pa_nil)))))) (pss_one (ps_ret pe_bl)) pss_nil)
    (pss_cons (ps_par (i := 11) (j := 12) (by rfl) sc_law_k06.nd rfl rfl (by decide) rfl rfl (pa_cons (pe_ix ix_list (pe_lst (pa_cons pe_int (pa_cons pe_int (pa_cons pe_non (pa_cons pe_bl (pa_cons pe_str pa_nil)))))) (pe_callH hF__law_taken (hr.mono (by decide)) pxE (pa_cons (pv 1) (pa_cons pe_int pa_nil))) (fun _ _ => rfl)) (pa_cons (pe_callH hF__law_taken (hr.mono (by decide)) pxE (pa_cons (pv 1) (pa_cons pe_int pa_nil))) pa_nil)) (by rfl))
    (pss_one (ps_ret (pe_and (pe_cmpR (op_eqD hr.units) (pe_callH hF__law_refused (hr.mono (by decide)) pxE (pa_cons (pv 4) (pa_cons (pv 11) (pa_cons pe_int (pa_cons (pv 12) pa_nil))))) (pe_lst (pa_cons pe_str (pa_cons (pv 11) pa_nil))) (nomark _)) (pe_one (pe_cmpR (op_eqD hr.units) (pe_callH hF__law_refused (hr.mono (by decide)) pxE (pa_cons (pv 4) (pa_cons (pv 5) (pa_cons (pv 11) (pa_cons (pv 12) pa_nil))))) (pe_lst (pa_cons pe_str (pa_cons (pv 11) pa_nil))) (nomark _))))))))))))))))) (fun vs H Q E h => pure_of (fun ds m P E h => p_law_k06  h) h)
end
/-! ### the head -/
def fnL : List DfP := [
  ⟨fun K => He.ga K "_law_taken", "_law_taken", "_law_taken", defArgs s__law_taken, defBody s__law_taken, defScope s__law_taken⟩,
  ⟨fun K => He.ga K "_law_runs", "_law_runs", "_law_runs", defArgs s__law_runs, defBody s__law_runs, defScope s__law_runs⟩,
  ⟨fun K => He.ga K "_law_drawn", "_law_drawn", "_law_drawn", defArgs s__law_drawn, defBody s__law_drawn, defScope s__law_drawn⟩,
  ⟨fun K => He.ga K "is_whole", "is_whole", "is_whole", defArgs s_is_whole, defBody s_is_whole, defScope s_is_whole⟩,
  ⟨fun K => He.ga K "is_within", "is_within", "is_within", defArgs s_is_within, defBody s_is_within, defScope s_is_within⟩,
  ⟨fun K => He.ma K (He.ga K "InvalidCoin") "__init__", "__init__", "InvalidCoin.__init__", defArgs s_InvalidCoin_init, defBody s_InvalidCoin_init, defScope s_InvalidCoin_init⟩,
  ⟨fun K => He.ga K "common", "common", "common", defArgs s_common, defBody s_common, defScope s_common⟩,
  ⟨fun K => He.ga K "fraction", "fraction", "fraction", defArgs s_fraction, defBody s_fraction, defScope s_fraction⟩,
  ⟨fun K => He.ma K (He.ga K "Coin") "__init__", "__init__", "Coin.__init__", defArgs s_Coin_init, defBody s_Coin_init, defScope s_Coin_init⟩,
  ⟨fun K => He.ma K (He.ga K "BadRun") "__init__", "__init__", "BadRun.__init__", defArgs s_BadRun_init, defBody s_BadRun_init, defScope s_BadRun_init⟩,
  ⟨fun K => He.ga K "need_run", "need_run", "need_run", defArgs s_need_run, defBody s_need_run, defScope s_need_run⟩,
  ⟨fun K => He.ga K "need_runs", "need_runs", "need_runs", defArgs s_need_runs, defBody s_need_runs, defScope s_need_runs⟩,
  ⟨fun K => He.ga K "raised", "raised", "raised", defArgs s_raised, defBody s_raised, defScope s_raised⟩,
  ⟨fun K => He.ga K "powers", "powers", "powers", defArgs s_powers, defBody s_powers, defScope s_powers⟩,
  ⟨fun K => He.ga K "product", "product", "product", defArgs s_product, defBody s_product, defScope s_product⟩,
  ⟨fun K => He.ga K "added", "added", "added", defArgs s_added, defBody s_added, defScope s_added⟩,
  ⟨fun K => He.ga K "less", "less", "less", defArgs s_less, defBody s_less, defScope s_less⟩,
  ⟨fun K => He.ga K "ends_of", "ends_of", "ends_of", defArgs s_ends_of, defBody s_ends_of, defScope s_ends_of⟩,
  ⟨fun K => He.ga K "over", "over", "over", defArgs s_over, defBody s_over, defScope s_over⟩,
  ⟨fun K => He.ga K "begun", "begun", "begun", defArgs s_begun, defBody s_begun, defScope s_begun⟩,
  ⟨fun K => He.ga K "chance_by", "chance_by", "chance_by", defArgs s_chance_by, defBody s_chance_by, defScope s_chance_by⟩,
  ⟨fun K => He.ga K "chances", "chances", "chances", defArgs s_chances, defBody s_chances, defScope s_chances⟩,
  ⟨fun K => He.ga K "is_fraction", "is_fraction", "is_fraction", defArgs s_is_fraction, defBody s_is_fraction, defScope s_is_fraction⟩,
  ⟨fun K => He.ga K "shows", "shows", "shows", defArgs s_shows, defBody s_shows, defScope s_shows⟩,
  ⟨fun K => He.ga K "_law_frac", "_law_frac", "_law_frac", defArgs s__law_frac, defBody s__law_frac, defScope s__law_frac⟩,
  ⟨fun K => He.ga K "_law_sum", "_law_sum", "_law_sum", defArgs s__law_sum, defBody s__law_sum, defScope s__law_sum⟩,
  ⟨fun K => He.ga K "_law_bent", "_law_bent", "_law_bent", defArgs s__law_bent, defBody s__law_bent, defScope s__law_bent⟩,
  ⟨fun K => He.ga K "_law_refused", "_law_refused", "_law_refused", defArgs s__law_refused_k06, defBody s__law_refused_k06, defScope s__law_refused_k06⟩,
  ⟨fun K => He.ga K "law", "law", "law", defArgs s_law_k06, defBody s_law_k06, defScope s_law_k06⟩]
def exL (K : PySem.W.Frag) : List Bool := [
  (He.Fa.glo "law").ok K,
  (He.Fa.free "int").ok K,
  (He.Fa.free "len").ok K,
  (He.Fa.free "isinstance").ok K,
  (He.Fa.free "bool").ok K,
  (He.Fa.free "abs").ok K,
  (He.Fa.int "MOST_SHARE" 9).ok K,
  (He.Fa.free "range").ok K,
  (He.Fa.glo "ONE").ok K,
  (He.Fa.int "MOST_RUN" 40).ok K,
  (He.Fa.free "tuple").ok K,
  (He.Fa.free "dict").ok K,
  (He.Fa.free "all").ok K,
  (He.Fa.free "list").ok K,
  xfB K (He.ga K "BadRun"),
  (He.Fa.noat "BadRun" "value").ok K,
  (He.Fa.glo "BadRun").ok K,
  (He.Fa.glo "RunError").ok K,
  baseB K (He.ga K "RunError"),
  insB K "Coin",
  (He.Fa.noat "Coin" "up").ok K,
  (He.Fa.noat "Coin" "down").ok K,
  (He.Fa.noat "Coin" "ahead").ok K,
  (He.Fa.noat "Coin" "behind").ok K,
  He.tupB K "ONE" [.int 1, .int 1],
  (He.Fa.exm "BadRun" "BadRun" true).ok K,
  (He.Fa.glo "_law_taken").ok K,
  (He.Fa.glo "_law_runs").ok K,
  (He.Fa.glo "_law_drawn").ok K,
  (He.Fa.glo "is_whole").ok K,
  (He.Fa.glo "is_within").ok K,
  oexB K (He.ga K "InvalidCoin"),
  initB K (He.ga K "InvalidCoin"),
  (He.Fa.glo "InvalidCoin").ok K,
  (He.Fa.glo "common").ok K,
  (He.Fa.glo "fraction").ok K,
  (He.Fa.glo "Coin").ok K,
  (He.Fa.mkr "Coin").ok K,
  oexB K (He.ga K "BadRun"),
  initB K (He.ga K "BadRun"),
  (He.Fa.glo "need_run").ok K,
  (He.Fa.glo "need_runs").ok K,
  (He.Fa.glo "raised").ok K,
  (He.Fa.glo "powers").ok K,
  (He.Fa.glo "product").ok K,
  (He.Fa.glo "added").ok K,
  (He.Fa.glo "less").ok K,
  (He.Fa.glo "ends_of").ok K,
  (He.Fa.glo "over").ok K,
  (He.Fa.glo "begun").ok K,
  (He.Fa.glo "chance_by").ok K,
  (He.Fa.glo "chances").ok K,
  (He.Fa.glo "is_fraction").ok K,
  (He.Fa.glo "shows").ok K,
  (He.Fa.glo "_law_frac").ok K,
  (He.Fa.glo "_law_sum").ok K,
  (He.Fa.glo "_law_bent").ok K,
  (He.Fa.glo "_law_refused").ok K]
def exB (K : PySem.W.Frag) : Bool := (exL K).all id
theorem exB_at {K : PySem.W.Frag} (h : exB K = true) {i : Nat} {b : Bool} (e : (exL K)[i]? = some b) : b = true := List.all_eq_true.mp h b (List.mem_of_getElem? e)
theorem facts {P : Program} {w : World} {K : PySem.W.Frag} {h : Heap} {mg : Str → Option Value} {fa : Addr} (X : K.In h) (Gn : h.Ns mainGlobals mg) (hfa : mg ("law" : Str) = some (.ref fa)) (c : SaysP exB fnL K) :
    ∃ fd : FuncData, (∀ (s : Shared) (v : Value), BindsTo s fd ⟨[v], []⟩ [("_law_script", v)]) ∧ ∀ base : Heap, K.In base → base.Ns mainGlobals mg → FnOk P w K mg base (L2.CX P w) 10 fa fd ["_law_script"] (SpD K (R_law ⟨K⟩)) := by
  obtain ⟨fd0, F0⟩ := c.def_ 0
  obtain ⟨fd1, F1⟩ := c.def_ 1
  obtain ⟨fd2, F2⟩ := c.def_ 2
  obtain ⟨fd3, F3⟩ := c.def_ 3
  obtain ⟨fd4, F4⟩ := c.def_ 4
  obtain ⟨fd5, F5⟩ := c.def_ 5
  obtain ⟨fd6, F6⟩ := c.def_ 6
  obtain ⟨fd7, F7⟩ := c.def_ 7
  obtain ⟨fd8, F8⟩ := c.def_ 8
  obtain ⟨fd9, F9⟩ := c.def_ 9
  obtain ⟨fd10, F10⟩ := c.def_ 10
  obtain ⟨fd11, F11⟩ := c.def_ 11
  obtain ⟨fd12, F12⟩ := c.def_ 12
  obtain ⟨fd13, F13⟩ := c.def_ 13
  obtain ⟨fd14, F14⟩ := c.def_ 14
  obtain ⟨fd15, F15⟩ := c.def_ 15
  obtain ⟨fd16, F16⟩ := c.def_ 16
  obtain ⟨fd17, F17⟩ := c.def_ 17
  obtain ⟨fd18, F18⟩ := c.def_ 18
  obtain ⟨fd19, F19⟩ := c.def_ 19
  obtain ⟨fd20, F20⟩ := c.def_ 20
  obtain ⟨fd21, F21⟩ := c.def_ 21
  obtain ⟨fd22, F22⟩ := c.def_ 22
  obtain ⟨fd23, F23⟩ := c.def_ 23
  obtain ⟨fd24, F24⟩ := c.def_ 24
  obtain ⟨fd25, F25⟩ := c.def_ 25
  obtain ⟨fd26, F26⟩ := c.def_ 26
  obtain ⟨fd27, F27⟩ := c.def_ 27
  obtain ⟨fd28, F28⟩ := c.def_ 28
  have ex := c.ex
  have e := hfa.symm.trans (He.glo_ok X Gn (exB_at ex (i := 0) rfl))
  cases e
  let G : Gam := ⟨K⟩
  have hN_int : mg "int" = none := He.free_ok X Gn (exB_at ex (i := 1) rfl)
  have hN_len : mg "len" = none := He.free_ok X Gn (exB_at ex (i := 2) rfl)
  have hN_isinstance : mg "isinstance" = none := He.free_ok X Gn (exB_at ex (i := 3) rfl)
  have hN_bool : mg "bool" = none := He.free_ok X Gn (exB_at ex (i := 4) rfl)
  have hN_abs : mg "abs" = none := He.free_ok X Gn (exB_at ex (i := 5) rfl)
  have hI_MOST_SHARE : ∃ t, mg "MOST_SHARE" = some (.int 9 t) := He.int_ok X Gn (exB_at ex (i := 6) rfl)
  have hN_range : mg "range" = none := He.free_ok X Gn (exB_at ex (i := 7) rfl)
  have hT_ONE : mg "ONE" = some (.ref G.vONE) := He.glo_ok X Gn (exB_at ex (i := 8) rfl)
  have hI_MOST_RUN : ∃ t, mg "MOST_RUN" = some (.int 40 t) := He.int_ok X Gn (exB_at ex (i := 9) rfl)
  have hN_tuple : mg "tuple" = none := He.free_ok X Gn (exB_at ex (i := 10) rfl)
  have hN_dict : mg "dict" = none := He.free_ok X Gn (exB_at ex (i := 11) rfl)
  have hN_all : mg "all" = none := He.free_ok X Gn (exB_at ex (i := 12) rfl)
  have hN_list : mg "list" = none := He.free_ok X Gn (exB_at ex (i := 13) rfl)
  have hX_BadRun : XfC G.K G.cBadRun := xfB_ok (exB_at ex (i := 14) rfl)
  have hY_BadRun_value : PySem.W.findIn G.K (.ref G.cBadRun) "value" = some none := He.noat_ok (exB_at ex (i := 15) rfl)
  have hG_BadRun : mg "BadRun" = some (.ref G.cBadRun) := He.glo_ok X Gn (exB_at ex (i := 16) rfl)
  have hG : mg "RunError" = some (.ref G.cRunError) := He.glo_ok X Gn (exB_at ex (i := 17) rfl)
  have hB : BaseI G.K G.cRunError (.type "type") := baseB_ok (exB_at ex (i := 18) rfl)
  have hCoin : CoinOk G := ⟨insB_ok (exB_at ex (i := 19) rfl), He.noat_ok (exB_at ex (i := 20) rfl), He.noat_ok (exB_at ex (i := 21) rfl), He.noat_ok (exB_at ex (i := 22) rfl), He.noat_ok (exB_at ex (i := 23) rfl)⟩
  have hCons : ConsOk G := ⟨He.tupB_ok (exB_at ex (i := 24) rfl)⟩
  have hxBR : PySem.W.exmOne G.K (.ref G.cBadRun) (.ref G.cBadRun) = some true := He.exm_ok (exB_at ex (i := 25) rfl)
  refine ⟨fd28, binds_top F28 (fun _ _ _ _ _ _ us hl => match us, hl with | [_], _ => rfl), fun base KX GX => ?_⟩
  have hF__law_taken : HasF P w G.K mg base "_law_taken" 1 ["_law_row", "_law_many"] (SpD G.K (R__law_taken G)) := ⟨_, fd0, He.glo_ok X Gn (exB_at ex (i := 26) rfl), F0.kp, (binds_of F0 fun _ _ _ _ _ _ us hl => match us, hl with | [_, _], _ => rfl), ok__law_taken F0 hN_int hN_len ⟩
  have hF__law_runs : HasF P w G.K mg base "_law_runs" 2 ["_law_row", "_law_most"] (SpD G.K (R__law_runs G)) := ⟨_, fd1, He.glo_ok X Gn (exB_at ex (i := 27) rfl), F1.kp, (binds_of F1 fun _ _ _ _ _ _ us hl => match us, hl with | [_, _], _ => rfl), ok__law_runs F1 hF__law_taken ⟩
  have hF__law_drawn : HasF P w G.K mg base "_law_drawn" 2 ["_law_row"] (SpD G.K (R__law_drawn G)) := ⟨_, fd2, He.glo_ok X Gn (exB_at ex (i := 28) rfl), F2.kp, (binds_of F2 fun _ _ _ _ _ _ us hl => match us, hl with | [_], _ => rfl), ok__law_drawn F2 hF__law_taken ⟩
  have hF_is_whole : HasF P w G.K mg base "is_whole" 1 ["value"] (SpD G.K (R_is_whole G)) := ⟨_, fd3, He.glo_ok X Gn (exB_at ex (i := 29) rfl), F3.kp, (binds_of F3 fun _ _ _ _ _ _ us hl => match us, hl with | [_], _ => rfl), ok_is_whole F3 hN_int hN_isinstance hN_bool ⟩
  have hF_is_within : HasF P w G.K mg base "is_within" 2 ["value", "low", "high"] (SpD G.K (R_is_within G)) := ⟨_, fd4, He.glo_ok X Gn (exB_at ex (i := 30) rfl), F4.kp, (binds_of F4 fun _ _ _ _ _ _ us hl => match us, hl with | [_, _, _], _ => rfl), ok_is_within F4 hF_is_whole ⟩
  have hO_InvalidCoin : OexC G.K G.cInvalidCoin := oexB_ok (exB_at ex (i := 31) rfl)
  have hI_InvalidCoin := He.ba (exB_at ex (i := 32) rfl)
  have hE_InvalidCoin : HasE P w G.K mg base "InvalidCoin" G.cInvalidCoin 1 ["self"] (spE0 G.cInvalidCoin) := ⟨He.glo_ok X Gn (exB_at ex (i := 33) rfl), hO_InvalidCoin, ⟨_, fd5, He.eqO_ok hI_InvalidCoin.1, of_decide_eq_true hI_InvalidCoin.2, (binds_of F5 fun _ _ _ _ _ _ us hl => match us, hl with | [_], _ => rfl), ok_InvalidCoin_init F5 hG hB hO_InvalidCoin ⟩⟩
  have hF_common : HasF P w G.K mg base "common" 1 ["one", "other"] (SpD G.K (R_common G)) := ⟨_, fd6, He.glo_ok X Gn (exB_at ex (i := 34) rfl), F6.kp, (binds_of F6 fun _ _ _ _ _ _ us hl => match us, hl with | [_, _], _ => rfl), ok_common F6 hN_abs ⟩
  have hF_fraction : HasF P w G.K mg base "fraction" 2 ["number", "parts"] (SpD G.K (R_fraction G)) := ⟨_, fd7, He.glo_ok X Gn (exB_at ex (i := 35) rfl), F7.kp, (binds_of F7 fun _ _ _ _ _ _ us hl => match us, hl with | [_, _], _ => rfl), ok_fraction F7 hF_common ⟩
  have hC_Coin : HasC P w G.K mg base "Coin" G.cCoin 3 ["self", "heads", "tails"] (SpD G.K (R_Coin_init G)) := ⟨He.glo_ok X Gn (exB_at ex (i := 36) rfl), ⟨_, fd8, He.mkr_ok (exB_at ex (i := 37) rfl), (binds_of F8 fun _ _ _ _ _ _ us hl => match us, hl with | [_, _, _], _ => rfl), ok_Coin_init F8 hI_MOST_SHARE hF_is_within hE_InvalidCoin hF_fraction hCoin⟩⟩
  have hO_BadRun : OexC G.K G.cBadRun := oexB_ok (exB_at ex (i := 38) rfl)
  have hI_BadRun := He.ba (exB_at ex (i := 39) rfl)
  have hE_BadRun : HasE P w G.K mg base "BadRun" G.cBadRun 1 ["self", "value"] (spE1 G.cBadRun "value") := ⟨He.glo_ok X Gn (exB_at ex (i := 16) rfl), hO_BadRun, ⟨_, fd9, He.eqO_ok hI_BadRun.1, of_decide_eq_true hI_BadRun.2, (binds_of F9 fun _ _ _ _ _ _ us hl => match us, hl with | [_, _], _ => rfl), ok_BadRun_init F9 hG hB hO_BadRun (He.noat_ok (exB_at ex (i := 15) rfl))⟩⟩
  have hF_need_run : HasF P w G.K mg base "need_run" 3 ["value", "most"] (SpD G.K (R_need_run G)) := ⟨_, fd10, He.glo_ok X Gn (exB_at ex (i := 40) rfl), F10.kp, (binds_of F10 fun _ _ _ _ _ _ us hl => match us, hl with | [_, _], _ => rfl), ok_need_run F10 hF_is_within hE_BadRun ⟩
  have hF_need_runs : HasF P w G.K mg base "need_runs" 4 ["j", "k", "most"] (SpD G.K (R_need_runs G)) := ⟨_, fd11, He.glo_ok X Gn (exB_at ex (i := 41) rfl), F11.kp, (binds_of F11 fun _ _ _ _ _ _ us hl => match us, hl with | [_, _, _], _ => rfl), ok_need_runs F11 hF_need_run ⟩
  have hF_raised : HasF P w G.K mg base "raised" 3 ["one", "times"] (SpD G.K (R_raised G)) := ⟨_, fd12, He.glo_ok X Gn (exB_at ex (i := 42) rfl), F12.kp, (binds_of F12 fun _ _ _ _ _ _ us hl => match us, hl with | [_, _], _ => rfl), ok_raised F12 hN_range hF_fraction ⟩
  have hF_powers : HasF P w G.K mg base "powers" 4 ["coin", "j", "k"] (SpD G.K (R_powers G)) := ⟨_, fd13, He.glo_ok X Gn (exB_at ex (i := 43) rfl), F13.kp, (binds_of F13 fun _ _ _ _ _ _ us hl => match us, hl with | [_, _, _], _ => rfl), ok_powers F13 hF_raised hCoin⟩
  have hF_product : HasF P w G.K mg base "product" 3 ["one", "other"] (SpD G.K (R_product G)) := ⟨_, fd14, He.glo_ok X Gn (exB_at ex (i := 44) rfl), F14.kp, (binds_of F14 fun _ _ _ _ _ _ us hl => match us, hl with | [_, _], _ => rfl), ok_product F14 hF_fraction ⟩
  have hF_added : HasF P w G.K mg base "added" 3 ["one", "other"] (SpD G.K (R_added G)) := ⟨_, fd15, He.glo_ok X Gn (exB_at ex (i := 45) rfl), F15.kp, (binds_of F15 fun _ _ _ _ _ _ us hl => match us, hl with | [_, _], _ => rfl), ok_added F15 hF_fraction ⟩
  have hF_less : HasF P w G.K mg base "less" 3 ["one", "other"] (SpD G.K (R_less G)) := ⟨_, fd16, He.glo_ok X Gn (exB_at ex (i := 46) rfl), F16.kp, (binds_of F16 fun _ _ _ _ _ _ us hl => match us, hl with | [_, _], _ => rfl), ok_less F16 hF_fraction ⟩
  have hF_ends_of : HasF P w G.K mg base "ends_of" 4 ["x", "y"] (SpD G.K (R_ends_of G)) := ⟨_, fd17, He.glo_ok X Gn (exB_at ex (i := 47) rfl), F17.kp, (binds_of F17 fun _ _ _ _ _ _ us hl => match us, hl with | [_, _], _ => rfl), ok_ends_of F17 hF_product hF_added hF_less ⟩
  have hF_over : HasF P w G.K mg base "over" 3 ["one", "other"] (SpD G.K (R_over G)) := ⟨_, fd18, He.glo_ok X Gn (exB_at ex (i := 48) rfl), F18.kp, (binds_of F18 fun _ _ _ _ _ _ us hl => match us, hl with | [_, _], _ => rfl), ok_over F18 hF_fraction ⟩
  have hF_begun : HasF P w G.K mg base "begun" 5 ["coin", "j", "k"] (SpD G.K (R_begun G)) := ⟨_, fd19, He.glo_ok X Gn (exB_at ex (i := 49) rfl), F19.kp, (binds_of F19 fun _ _ _ _ _ _ us hl => match us, hl with | [_, _, _], _ => rfl), ok_begun F19 hF_powers hF_ends_of hF_over hT_ONE hF_less hF_product hCoin hCons⟩
  have hF_chance_by : HasF P w G.K mg base "chance_by" 6 ["coin", "j", "k", "state"] (SpD G.K (R_chance_by G)) := ⟨_, fd20, He.glo_ok X Gn (exB_at ex (i := 50) rfl), F20.kp, (binds_of F20 fun _ _ _ _ _ _ us hl => match us, hl with | [_, _, _, _], _ => rfl), ok_chance_by F20 hF_begun hF_product hF_added hF_raised hT_ONE hF_less hCoin hCons⟩
  have hF_chances : HasF P w G.K mg base "chances" 7 ["coin", "j", "k"] (SpD G.K (R_chances G)) := ⟨_, fd21, He.glo_ok X Gn (exB_at ex (i := 51) rfl), F21.kp, (binds_of F21 fun _ _ _ _ _ _ us hl => match us, hl with | [_, _, _], _ => rfl), ok_chances F21 hI_MOST_RUN hF_need_runs hN_range hF_chance_by ⟩
  have hF_is_fraction : HasF P w G.K mg base "is_fraction" 2 ["value"] (SpD G.K (R_is_fraction G)) := ⟨_, fd22, He.glo_ok X Gn (exB_at ex (i := 52) rfl), F22.kp, (binds_of F22 fun _ _ _ _ _ _ us hl => match us, hl with | [_], _ => rfl), ok_is_fraction F22 hN_tuple hN_isinstance hN_len hF_is_whole hF_common ⟩
  have hF_shows : HasF P w G.K mg base "shows" 8 ["coin", "j", "k", "value"] (SpD G.K (R_shows G)) := ⟨_, fd23, He.glo_ok X Gn (exB_at ex (i := 53) rfl), F23.kp, (binds_of F23 fun _ _ _ _ _ _ us hl => match us, hl with | [_, _, _, _], _ => rfl), ok_shows F23 hF_chances hN_dict hN_isinstance hN_len hF_is_fraction hF_is_whole hN_all ⟩
  have hF__law_frac : HasF P w G.K mg base "_law_frac" 1 ["_law_number", "_law_parts"] (SpD G.K (R__law_frac G)) := ⟨_, fd24, He.glo_ok X Gn (exB_at ex (i := 54) rfl), F24.kp, (binds_of F24 fun _ _ _ _ _ _ us hl => match us, hl with | [_, _], _ => rfl), ok__law_frac F24 hN_abs ⟩
  have hF__law_sum : HasF P w G.K mg base "_law_sum" 2 ["_law_one", "_law_mate"] (SpD G.K (R__law_sum G)) := ⟨_, fd25, He.glo_ok X Gn (exB_at ex (i := 55) rfl), F25.kp, (binds_of F25 fun _ _ _ _ _ _ us hl => match us, hl with | [_, _], _ => rfl), ok__law_sum F25 hF__law_frac ⟩
  have hF__law_bent : HasF P w G.K mg base "_law_bent" 3 ["_law_row", "_law_known"] (SpD G.K (R__law_bent G)) := ⟨_, fd26, He.glo_ok X Gn (exB_at ex (i := 56) rfl), F26.kp, (binds_of F26 fun _ _ _ _ _ _ us hl => match us, hl with | [_, _], _ => rfl), ok__law_bent F26 hF__law_taken hN_list hN_len hN_dict hF__law_sum ⟩
  have hF__law_refused : HasF P w G.K mg base "_law_refused" 9 ["_law_coin", "_law_j", "_law_k", "_law_kind"] (SpD G.K (R__law_refused_k06 G)) := ⟨_, fd27, He.glo_ok X Gn (exB_at ex (i := 57) rfl), F27.kp, (binds_of F27 fun _ _ _ _ _ _ us hl => match us, hl with | [_, _, _, _], _ => rfl), ok__law_refused_k06 F27 hF_shows hF_chances hX_BadRun hY_BadRun_value hG_BadRun hxBR⟩
  exact ok_law_k06 F28 hF__law_runs hF__law_drawn hC_Coin hF_chances hN_list hN_dict hF_shows hF__law_bent hN_len hF__law_taken hF__law_refused 
abbrev R : PySem.W.OpenRow := PySem.W.OpenLaw.row PySem.Challenge.rw_runsapart_k06_chances_shown
def loose0 : List PySem.Str := ["RunError", "InvalidCoin", "BadRun", "ONE", "is_whole", "is_within", "common", "fraction", "is_fraction", "added", "less", "product"]
def loose1 : List PySem.Str := ["over", "raised", "MOST_SHARE", "MOST_RUN", "Coin", "need_run", "need_runs", "powers", "ends_of", "begun", "chance_by", "chances"]
def loose2 : List PySem.Str := ["shows", "_law_taken", "_law_frac", "_law_sum", "_law_times", "_law_total", "_law_drawn", "_law_runs", "_law_shares", "_law_refused", "_law_bent"]
abbrev hk : PySem.W.Hook := hookP 5 exB fnL
def ob (s : PySem.W.SharedT) : AlP := obsPG 5 exB fnL (HandSHeadRun.getT s)
theorem ob_eq (s : PySem.W.SharedT) : ob s = hk.obs s.abs := obsPG_eq (HandSHeadRun.getT_eq s)
theorem run (w : World) : HandSHeadRun.RunEq R (PySem.W.view R.prog [40]) hk ob 8000 (loose0 ++ loose1 ++ loose2) w := by
  intro os
  kernel_rfl
end W_k06
open PySem PySem.W PySem.Calls PyProof.Rows
theorem PySem.Challenge.cw_runsapart_k06_chances_shown_holds : PySem.Challenge.rw_runsapart_k06_chances_shown.Holds := by
  w_on; o_law
  refine HandSHeadRun.head_any (r := OpenLaw.row PySem.Challenge.rw_runsapart_k06_chances_shown) (q := view (OpenLaw.row PySem.Challenge.rw_runsapart_k06_chances_shown).prog [40]) (H := W_k06.hk) (ob := W_k06.ob) (M := 8000) (loose := W_k06.loose0 ++ W_k06.loose1 ++ W_k06.loose2) (d := HandSHeadRun.topDef (OpenLaw.row PySem.Challenge.rw_runsapart_k06_chances_shown).prog 40) (kwd := []) W_k06.ob_eq
    (by kernel_rfl) (fun s => by kernel_rfl) W_k06.run (by kernel_rfl) (by kernel_rfl) (by kernel_rfl) (by rfl) (by first | assumption | decide +kernel) (by decide +kernel) ⟨rfl, rfl, rfl, rfl, rfl, by decide +kernel⟩ ?hw ?hc
  case hw => w_witness2
  case hc =>
    refine L2.walk_ofE (l := PySem.Challenge.rw_runsapart_k06_chances_shown) (n := 63) (k := 10) (x := "_law_script") (CX := L2.CX0) rfl (by decide) (by kernel_rfl) ⟨rfl, by decide, by decide⟩ ?F (fun _ _ _ _ z => z)
    case F =>
      intro w mg fa h Y G hmg0
      obtain ⟨K, KX, c⟩ := Y
      have hmg : mg ("law" : PySem.Str) = some (.ref fa) := by
        have e : (HandSHeadRun.topDef (OpenLaw.row PySem.Challenge.rw_runsapart_k06_chances_shown).prog 40).name = ("law" : PySem.Str) := by kernel_rfl
        rw [← e]; exact hmg0
      obtain ⟨fd, hb, hF⟩ := W_k06.facts (P := (PySem.Challenge.rw_runsapart_k06_chances_shown).prog) (w := w) KX G hmg c
      exact ⟨K, fd, fun vs H Q _ => RA.SpD K (RA.R_law ⟨K⟩) vs H Q (fun _ _ _ => False), KX, hb, fun H a ns hl _ hS => RA.law_sp hl hS, fun base KX GX => RA.cx0_of (hF base KX GX)⟩
