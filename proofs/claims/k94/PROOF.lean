import PyProof.Rows.All
import Wide.All
import OpenK.AllK
import Wide.FinOn
import HandS.ForMost
import HandS.ForExc
import HandS.WideBits
import HandS.IsInst
import HandS.Zip
import HandS.TupAny
import HandS.TupLe
import HandS.TupMul
import HandS.EndBits
import KE.GoesEnum
import HandS.Lambda
import HandS.ExcValue
import HandS.EndTab
import KE.KTupSum
import KE.KSortedM
import KE.GoesNew
import HandS.Style
import HandS.Deep
import HandS.ExcIs
import HandS.HotCalls
import KE.DataFind
import PyProof.ReprRoads
import KE.KExcIs
import HandS.Conv
import KE.DataMinMax
import HandS.SetFor
import HandS.Strs
import HandS.ExcInit
import HandS.Text
import HandS.Replace
import HandS.Iter
import HandS.StrMore
import PyProof.P3In
import KE.KDictPairs
import KE.IntBitsLaws
import PySem.Challenge.RW_lineswitch_k94_errors_made
set_option Elab.async false
set_option linter.all false
set_option maxRecDepth 100000
set_option maxHeartbeats 4000000
/-! LsA: data D with a store of mutable cells, above the hand layer; results, what is owed behind them. -/
namespace Ls
open PySem PySem.Spec PyProof.Rows L2
/-- things known by their kind alone: a lambda without names of its maker, an error not raised, one with its two numbers -/
inductive Opq where
  | lam (q : Str) (a : Arguments) (b : Expr) (s : Scope)
  | exo (x : Str)
  | exm (x : Str) (m n : Int)
/-- Python's data: values that never change by structure; ref n is the n-th mutable cell of the store; gl x what the module's name x holds (a def, a class) -/
inductive D where
  | non
  | bl (b : Bool)
  | int (i : Int)
  | str (x : Str)
  | tup (xs : List D)
  | lst (xs : List D)
  | scr (ns : List Int)
  | ref (n : Nat)
  | gl (x : Str)
  | emp
  | ty (n : String)
  | err (x : Str) (fs : List D)
  | dref (n : Nat)
  | iref (n : Nat)
  | stup (xs : List D)
  | xtup (xs : List D)
  | opq (k : Opq)
instance : Inhabited D := ⟨.non⟩
/-- a mutable cell -/
inductive Ob where
  | lst (xs : List D)
  | dic (kvs : List (Key × D))
  | dil (kvs : List (Key × D))
  | dit (kvs : List (List Key × D))
  | ins (x : Str) (fs : List (Str × D))
/-- what a cell holds -/
def Ob.parts : Ob → List D
  | .lst xs => xs
  | .dic kvs => kvs.map (·.2)
  | .dil kvs => kvs.map (·.2)
  | .dit kvs => kvs.map (·.2)
  | .ins _ fs => fs.map (·.2)
abbrev Store := List Ob
abbrev Rho := List (Option D)
/-- which addresses may be written: the store's cells, and lists in the making that no data knows -/
structure Ly where
  c : List Addr
  p : List Addr
instance : Membership Addr Ly := ⟨fun L a => a ∈ L.c ∨ a ∈ L.p⟩
theorem Ly.mem {L : Ly} {a : Addr} : a ∈ L ↔ a ∈ L.c ∨ a ∈ L.p := Iff.rfl
/-- one cell more; one list in the making more -/
abbrev Ly.add (L : Ly) (a : Addr) : Ly := ⟨L.c ++ [a], L.p⟩
abbrev Ly.prv (L : Ly) (a : Addr) : Ly := ⟨L.c, a :: L.p⟩
abbrev Tb := List (Addr × Str)
structure Wd where
  K : PySem.W.Frag
  mg : Str → Option Value
  T : Tb
  er : Option (Addr × Addr × Option Addr)
/-- no table of code objects -/
abbrev NoT (o : HO) : Prop := ∀ ps, o ≠ .tbl ps
theorem noT_lst {xs : List V} : NoT (.lst xs) := fun _ z => by cases z
theorem noT_tup {xs : List V} : NoT (.tup xs) := fun _ z => by cases z
theorem noT_dK {kvs : List (Key × V)} : NoT (.dK kvs) := fun _ z => by cases z
theorem noT_xd {fs : List (Str × V)} : NoT (.xd fs) := fun _ z => by cases z
theorem noT_frz {o : Obj} {u : HO} : NoT (.frz o u) := fun _ z => by cases z
/-- a list that nobody writes: tracked and no cell of the store, or one of the written part -/
def QL (w : Wd) (L : Ly) (H : Hp) (a : Addr) (xs : List V) : Prop := (Rd H a (.lst xs) ∧ a ∉ L) ∨ SqL w.K (fun _ => none) a xs
theorem QL.sq {w : Wd} {L : Ly} {H : Hp} {a : Addr} {xs : List V} (q : QL w L H a xs) : SqL w.K H a xs := by
  rcases q with ⟨q, _⟩ | q
  · exact .inl q
  · rcases q with (q | ⟨_, q⟩) | q
    · cases q
    · cases q
    · exact .inr q
/-- kinds of what is written -/
def kdOf : HO → Nat
  | .lst _ => 1
  | .dK _ => 2
  | .frz _ (.dK _) => 2
  | .dT _ => 2
  | .frz _ (.dT _) => 2
  | .ins _ _ _ => 3
  | _ => 0
def Kd (H : Hp) (a : Addr) (i : Nat) : Prop := ∃ u, H a = some u ∧ kdOf u = i
theorem Kd.lst {H : Hp} {a : Addr} {xs : List V} (h : H a = some (.lst xs)) : Kd H a 1 := ⟨_, h, rfl⟩
theorem Kd.dK {H : Hp} {a : Addr} {kvs : List (Key × V)} (h : H a = some (.dK kvs)) : Kd H a 2 := ⟨_, h, rfl⟩
theorem Kd.ins {H : Hp} {a C dx : Addr} {fs : List (Str × V)} (h : H a = some (.ins C dx fs)) : Kd H a 3 := ⟨_, h, rfl⟩
theorem Kd.is1 {H : Hp} {a : Addr} (k : Kd H a 1) : ∃ xs, H a = some (.lst xs) := by
  obtain ⟨u, h, e⟩ := k
  cases u with
  | lst xs => exact ⟨_, h⟩
  | frz o u => cases u <;> exact nomatch e
  | _ => exact nomatch e
theorem Kd.is2 {H : Hp} {a : Addr} (k : Kd H a 2) : IsD H a := by
  obtain ⟨u, h, e⟩ := k
  cases u with
  | dK xs => exact .inl ⟨_, .inl h⟩
  | dT xs => exact .inr ⟨_, .inl h⟩
  | frz o u => cases u <;> first | exact .inl ⟨_, .inr ⟨_, h⟩⟩ | exact .inr ⟨_, .inr ⟨_, h⟩⟩ | exact nomatch e
  | _ => exact nomatch e
theorem Kd.dT {H : Hp} {a : Addr} {kvs : List (List Key × V)} (h : H a = some (.dT kvs)) : Kd H a 2 := ⟨_, h, rfl⟩
theorem Kd.is3 {H : Hp} {a : Addr} (k : Kd H a 3) : ∃ C dx fs, H a = some (.ins C dx fs) := by
  obtain ⟨u, h, e⟩ := k
  cases u with
  | ins C dx fs => exact ⟨_, _, _, h⟩
  | frz o u => cases u <;> exact nomatch e
  | _ => exact nomatch e
/-- cells stay of their kind -/
def KindO (L : Ly) (H H' : Hp) : Prop := ∀ a i, a ∈ L.c → i ≠ 0 → Kd H a i → Kd H' a i
/-- .. and what is locked stays as it is -/
structure KindK (L : Ly) (H H' : Hp) : Prop where
  k : KindO L H H'
  f : ∀ b o u, b ∈ L.c → H b = some (.frz o u) → H' b = some (.frz o u)
/-- no lock stands there -/
def NoF (u : HO) : Prop := ∀ o v, u ≠ .frz o v
theorem noF_lst {xs : List V} : NoF (.lst xs) := fun _ _ z => nomatch z
theorem noF_dK {kvs : List (Key × V)} : NoF (.dK kvs) := fun _ _ z => nomatch z
theorem noF_dT {kvs : List (List Key × V)} : NoF (.dT kvs) := fun _ _ z => nomatch z
theorem noF_ins {C dx : Addr} {fs : List (Str × V)} : NoF (.ins C dx fs) := fun _ _ z => nomatch z
theorem KindK.of {L : Ly} {H H' : Hp} (h : ∀ a, a ∈ L.c → ∀ u, H a = some u → NoT u → H' a = some u) : KindK L H H' :=
  ⟨fun a i ha hi ⟨u, e, k⟩ => ⟨u, h a ha u e (fun ps z => by rw [z] at k; exact hi k.symm), k⟩, fun b o u hb e => h b hb _ e noT_frz⟩
theorem KindK.refl (L : Ly) (H : Hp) : KindK L H H := ⟨fun _ _ _ _ k => k, fun _ _ _ _ e => e⟩
theorem KindO.wr {L : Ly} {H : Hp} {a : Addr} {o u : HO} (h : H a = some u) (k : kdOf o = kdOf u) : KindO L H (upd H a o) := fun b i _ _ ⟨v, e, kv⟩ => by
  by_cases hb : b = a
  · subst hb
    rw [h] at e
    cases e
    exact ⟨o, upd_same, k.trans kv⟩
  · exact ⟨v, by rw [upd_ne hb]; exact e, kv⟩
theorem KindK.wr {L : Ly} {H : Hp} {a : Addr} {o u : HO} (h : H a = some u) (k : kdOf o = kdOf u) (nf : NoF u) : KindK L H (upd H a o) := ⟨.wr h k, fun b o' u' _ e => by
  rw [upd_ne (show b ≠ a from fun z => by rw [z, h] at e; cases e; exact nf _ _ rfl)]
  exact e⟩
theorem KindK.new {L : Ly} {H : Hp} {p : Addr} {o : HO} (hp : H p = none) : KindK L H (upd H p o) := .of fun a _ u h _ => by rw [upd_ne (ne_of_none h hp)]; exact h
theorem KindK.trans {L L1 : Ly} {H H1 H2 : Hp} (s : ∀ c, c ∈ L.c → c ∈ L1.c) (a : KindK L H H1) (b : KindK L1 H1 H2) : KindK L H H2 :=
  ⟨fun c i hc hi k => b.k c i (s c hc) hi (a.k c i hc hi k), fun c o u hc e => b.f c o u (s c hc) (a.f c o u hc e)⟩
/-- a lambda's object -/
def LamO (a c : Addr) (q : Str) (ps : Arguments) (bd : Expr) (sc : Scope) : HO := .ext fun h => ∃ pm ctv : Value, h.get? a = some (PySem.W.kla_obj "<lambda>" q ps bd sc [] pm c ctv)
/-- an error's object with its own names at d -/
def ExoD (C : Addr) (d : Option Addr) (a : Addr) : HO := .ext fun h => ∃ (oe : Obj) (vs : Array Value), h.get? a = some oe ∧ oe.cls = .ref C ∧ oe.dict = d ∧ oe.data = .fields vs
def OpqR (w : Wd) (L : Ly) (H : Hp) (v : V) : Opq → Prop
  | .lam q ps bd sc => ∃ a c : Addr, v = .ref a ∧ H a = some (LamO a c q ps bd sc) ∧ H c = some (LamX.CodeO c q) ∧ a ∉ L ∧ c ∉ L
  | .exo x => ∃ a C : Addr, v = .ref a ∧ w.mg x = some (.ref C) ∧ H a = some (ExO (.ref C) a) ∧ a ∉ L
  | .exm x m n => ∃ a C d : Addr, v = .ref a ∧ w.mg x = some (.ref C) ∧ H a = some (ExoD C (some d) a) ∧ H d = some (.xd [("most", .int n), ("many", .int m)]) ∧ a ∉ L ∧ d ∉ L
theorem noT_ext {φ : Heap → Prop} : NoT (.ext φ) := fun _ z => by cases z
theorem noT_lam {a c : Addr} {q : Str} {ps : Arguments} {bd : Expr} {sc : Scope} : NoT (LamO a c q ps bd sc) := noT_ext
theorem noT_code {c : Addr} {q : Str} : NoT (LamX.CodeO c q) := noT_ext
theorem noT_exo {C : Value} {a : Addr} : NoT (ExO C a) := noT_ext
theorem noT_exoD {C a : Addr} {d : Option Addr} : NoT (ExoD C d a) := noT_ext
mutual
inductive Rep (w : Wd) (L : Ly) (H : Hp) : V → D → Prop
  | non : Rep w L H .non .non
  | bl (b : Bool) : Rep w L H (.bl b) (.bl b)
  | int (i : Int) : Rep w L H (.int i) (.int i)
  | str (x : Str) : Rep w L H (.str x) (.str x)
  | tup {a : Addr} {xs : List V} {ds : List D} (h : Rd H a (.tup xs)) (n : a ∉ L) (r : RepL w L H xs ds) : Rep w L H (.ref a) (.tup ds)
  | stup {a : Addr} {o : Obj} {xs : List V} {ds : List D} (h : H a = some (.frz o (.tup xs))) (hc : o.cls = .type "tuple" ∧ o.dict = none) (n : a ∉ L) (r : RepL w L H xs ds) : Rep w L H (.ref a) (.stup ds)
  | xtup {a : Addr} {xs : List V} {ds : List D} (h : H a = some (.tup xs)) (n : a ∉ L) (r : RepL w L H xs ds) : Rep w L H (.ref a) (.xtup ds)
  | emp {a : Addr} (h : H a = some (.dK [])) (n : a ∉ L) : Rep w L H (.ref a) .emp
  | lst {a : Addr} {xs : List V} {ds : List D} (h : H a = some (.lst xs)) (n : a ∉ L) (r : RepL w L H xs ds) : Rep w L H (.ref a) (.lst ds)
  | scr {a : Addr} {ns : List Int} (h : QL w L H a (ns.map V.int)) : Rep w L H (.ref a) (.scr ns)
  | ref {a : Addr} {n : Nat} (h : L.c[n]? = some a) (k : Kd H a 1) : Rep w L H (.ref a) (.ref n)
  | dref {a : Addr} {n : Nat} (h : L.c[n]? = some a) (k : Kd H a 2) : Rep w L H (.ref a) (.dref n)
  | iref {a : Addr} {n : Nat} (h : L.c[n]? = some a) (k : Kd H a 3) : Rep w L H (.ref a) (.iref n)
  | gl {a : Addr} {x : Str} (h : w.mg x = some (.ref a)) : Rep w L H (.ref a) (.gl x)
  | ty (n : String) : Rep w L H (.ty n) (.ty n)
  | opq {v : V} {k : Opq} (h : OpqR w L H v k) : Rep w L H v (.opq k)
  | err0 {a C : Addr} {x : Str} (h : w.er = some (a, C, none)) (hm : w.mg x = some (.ref C)) : Rep w L H (.ref a) (.err x [])
  | err2 {a C d : Addr} {x : Str} {u v : V} {y z : D} (h : w.er = some (a, C, some d)) (hm : w.mg x = some (.ref C)) (hd : H d = some (.xd [("most", v), ("many", u)])) (n : d ∉ L) (r : Rep w L H u y) (s : Rep w L H v z) : Rep w L H (.ref a) (.err x [y, z])
inductive RepL (w : Wd) (L : Ly) (H : Hp) : List V → List D → Prop
  | nil : RepL w L H [] []
  | cons {v : V} {vs : List V} {d : D} {ds : List D} (h : Rep w L H v d) (t : RepL w L H vs ds) : RepL w L H (v :: vs) (d :: ds)
end
/-- the heap goes on: cells are only added, what is neither stays, and so does what is in the making -/
structure Ex (L : Ly) (H : Hp) (L' : Ly) (H' : Hp) : Prop where
  pre : ∃ N, L'.c = L.c ++ N
  prv : L'.p = L.p
  keep : ∀ b o, H b = some o → NoT o → b ∉ L → H' b = some o ∧ b ∉ L'
  still : ∀ b, b ∈ L.p → H' b = H b
  knd : KindK L H H'
theorem Ex.refl (L : Ly) (H : Hp) : Ex L H L H := ⟨⟨[], by simp⟩, rfl, fun _ _ h _ n => ⟨h, n⟩, fun _ _ => rfl, .refl L H⟩
theorem Ex.trans {L L1 L2 : Ly} {H H1 H2 : Hp} (a : Ex L H L1 H1) (b : Ex L1 H1 L2 H2) : Ex L H L2 H2 := by
  obtain ⟨N, e⟩ := a.pre
  obtain ⟨M, f⟩ := b.pre
  exact ⟨⟨N ++ M, by rw [f, e, List.append_assoc]⟩, b.prv.trans a.prv, fun c o h t n => let ⟨h1, n1⟩ := a.keep c o h t n; b.keep c o h1 t n1, fun c hc => (b.still c (by rw [a.prv]; exact hc)).trans (a.still c hc), a.knd.trans (fun c hc => by rw [e]; exact List.mem_append_left _ hc) b.knd⟩
theorem Ex.at {L L' : Ly} {H H' : Hp} (e : Ex L H L' H') {n : Nat} {a : Addr} (h : L.c[n]? = some a) : L'.c[n]? = some a := by
  obtain ⟨N, e⟩ := e.pre
  rw [e, List.getElem?_append_left (List.getElem?_eq_some_iff.mp h).1]
  exact h
theorem Ex.new {L : Ly} {H : Hp} {p : Addr} {o : HO} (hp : H p = none) (hn : p ∉ L) : Ex L H L (upd H p o) :=
  ⟨⟨[], by simp⟩, rfl, fun b u h _ n => ⟨by rw [upd_ne (ne_of_none h hp)]; exact h, n⟩, fun b hb => upd_ne (fun e => hn (.inr (e ▸ hb))), .new hp⟩
theorem Ex.newM {L : Ly} {H : Hp} {p : Addr} {o : HO} (hp : H p = none) (hn : p ∉ L) : Ex L H (L.add p) (upd H p o) :=
  ⟨⟨[p], rfl⟩, rfl, fun b u h _ n => ⟨by rw [upd_ne (ne_of_none h hp)]; exact h, fun z => by
    rcases z with z | z
    · rcases List.mem_append.mp z with z | z
      · exact n (.inl z)
      · exact ne_of_none h hp (by simpa using z)
    · exact n (.inr z)⟩, fun b hb => upd_ne (fun e => hn (.inr (e ▸ hb))), .new hp⟩
theorem Ex.write {L : Ly} {H : Hp} {a : Addr} {o u : HO} (ha : a ∈ L.c) (hn : a ∉ L.p) (hu : H a = some u) (hk : kdOf o = kdOf u) (nf : NoF u) : Ex L H L (upd H a o) :=
  ⟨⟨[], by simp⟩, rfl, fun b u h _ n => ⟨by rw [upd_ne (show b ≠ a from fun e => n (by rw [e]; exact .inl ha))]; exact h, n⟩, fun b hb => upd_ne (fun e => hn (e ▸ hb)), .wr hu hk nf⟩
theorem Ex.ql_ {w : Wd} {L L' : Ly} {H H' : Hp} (e : Ex L H L' H') {a : Addr} {xs : List V} (q : QL w L H a xs) : QL w L' H' a xs := by
  rcases q with ⟨q | ⟨o, q⟩, n⟩ | q
  · exact .inl ⟨.inl (e.keep _ _ q noT_lst n).1, (e.keep _ _ q noT_lst n).2⟩
  · exact .inl ⟨.inr ⟨o, (e.keep _ _ q noT_frz n).1⟩, (e.keep _ _ q noT_frz n).2⟩
  · exact .inr q
/-- .. whatever is in the making -/
structure Ey (L : Ly) (H : Hp) (L' : Ly) (H' : Hp) : Prop where
  pre : ∃ N, L'.c = L.c ++ N
  keep : ∀ b o, H b = some o → NoT o → b ∉ L → H' b = some o ∧ b ∉ L'
  knd : KindK L H H'
theorem Ex.y {L L' : Ly} {H H' : Hp} (e : Ex L H L' H') : Ey L H L' H' := ⟨e.pre, e.keep, e.knd⟩
theorem Ey.trans {L L1 L2 : Ly} {H H1 H2 : Hp} (a : Ey L H L1 H1) (b : Ey L1 H1 L2 H2) : Ey L H L2 H2 := by
  obtain ⟨N, e⟩ := a.pre
  obtain ⟨M, f⟩ := b.pre
  exact ⟨⟨N ++ M, by rw [f, e, List.append_assoc]⟩, fun c o h t n => let ⟨h1, n1⟩ := a.keep c o h t n; b.keep c o h1 t n1, a.knd.trans (fun c hc => by rw [e]; exact List.mem_append_left _ hc) b.knd⟩
/-- .. locks may be undone -/
structure Ez (L : Ly) (H : Hp) (L' : Ly) (H' : Hp) : Prop where
  pre : ∃ N, L'.c = L.c ++ N
  keep : ∀ b o, H b = some o → NoT o → b ∉ L → H' b = some o ∧ b ∉ L'
  knd : KindO L H H'
theorem Ey.z {L L' : Ly} {H H' : Hp} (e : Ey L H L' H') : Ez L H L' H' := ⟨e.pre, e.keep, e.knd.k⟩
theorem Ez.at {L L' : Ly} {H H' : Hp} (e : Ez L H L' H') {n : Nat} {a : Addr} (h : L.c[n]? = some a) : L'.c[n]? = some a := by
  obtain ⟨N, q⟩ := e.pre
  rw [q, List.getElem?_append_left (List.getElem?_eq_some_iff.mp h).1]
  exact h
theorem Ez.rd {L L' : Ly} {H H' : Hp} (e : Ez L H L' H') {a : Addr} {xs : List V} (h : Rd H a (.tup xs)) (n : a ∉ L) : Rd H' a (.tup xs) ∧ a ∉ L' := by
  rcases h with h | ⟨o, h⟩
  · exact ⟨.inl (e.keep _ _ h noT_tup n).1, (e.keep _ _ h noT_tup n).2⟩
  · exact ⟨.inr ⟨o, (e.keep _ _ h noT_frz n).1⟩, (e.keep _ _ h noT_frz n).2⟩
theorem OpqR.monoZ {w : Wd} {L L' : Ly} {H H' : Hp} (e : Ez L H L' H') {v : V} : ∀ {k : Opq}, OpqR w L H v k → OpqR w L' H' v k
  | .lam _ _ _ _, ⟨a, c, h1, h2, h3, h4, h5⟩ => ⟨a, c, h1, (e.keep _ _ h2 noT_lam h4).1, (e.keep _ _ h3 noT_code h5).1, (e.keep _ _ h2 noT_lam h4).2, (e.keep _ _ h3 noT_code h5).2⟩
  | .exo _, ⟨a, C, h1, h2, h3, h4⟩ => ⟨a, C, h1, h2, (e.keep _ _ h3 noT_exo h4).1, (e.keep _ _ h3 noT_exo h4).2⟩
  | .exm _ _ _, ⟨a, C, d, h1, h2, h3, h4, h5, h6⟩ => ⟨a, C, d, h1, h2, (e.keep _ _ h3 noT_exoD h5).1, (e.keep _ _ h4 noT_xd h6).1, (e.keep _ _ h3 noT_exoD h5).2, (e.keep _ _ h4 noT_xd h6).2⟩
theorem OpqR.er {w : Wd} {L : Ly} {H : Hp} {v : V} {er : Option (Addr × Addr × Option Addr)} : ∀ {k : Opq}, OpqR w L H v k ↔ OpqR ⟨w.K, w.mg, w.T, er⟩ L H v k
  | .lam _ _ _ _ => Iff.rfl
  | .exo _ => Iff.rfl
  | .exm _ _ _ => Iff.rfl
mutual
theorem Rep.monoZ {w : Wd} {L L' : Ly} {H H' : Hp} (e : Ez L H L' H') : ∀ {v : V} {d : D}, Rep w L H v d → Rep w L' H' v d
  | _, _, .non => .non
  | _, _, .bl b => .bl b
  | _, _, .int i => .int i
  | _, _, .str x => .str x
  | _, _, .tup h n r => .tup (e.rd h n).1 (e.rd h n).2 (RepL.monoZ e r)
  | _, _, .stup h c n r => .stup (e.keep _ _ h noT_frz n).1 c (e.keep _ _ h noT_frz n).2 (RepL.monoZ e r)
  | _, _, .xtup h n r => .xtup (e.keep _ _ h noT_tup n).1 (e.keep _ _ h noT_tup n).2 (RepL.monoZ e r)
  | _, _, .lst h n r => .lst (e.keep _ _ h noT_lst n).1 (e.keep _ _ h noT_lst n).2 (RepL.monoZ e r)
  | _, _, .emp h n => .emp (e.keep _ _ h noT_dK n).1 (e.keep _ _ h noT_dK n).2
  | _, _, .scr h => .scr (by
    rcases h with ⟨q | ⟨o, q⟩, n⟩ | q
    · exact .inl ⟨.inl (e.keep _ _ q noT_lst n).1, (e.keep _ _ q noT_lst n).2⟩
    · exact .inl ⟨.inr ⟨o, (e.keep _ _ q noT_frz n).1⟩, (e.keep _ _ q noT_frz n).2⟩
    · exact .inr q)
  | _, _, .ref h k => .ref (e.at h) (e.knd _ _ (List.mem_of_getElem? h) (by decide) k)
  | _, _, .dref h k => .dref (e.at h) (e.knd _ _ (List.mem_of_getElem? h) (by decide) k)
  | _, _, .iref h k => .iref (e.at h) (e.knd _ _ (List.mem_of_getElem? h) (by decide) k)
  | _, _, .gl h => .gl h
  | _, _, .ty n => .ty n
  | _, _, .opq h => .opq (h.monoZ e)
  | _, _, .err0 h m => .err0 h m
  | _, _, .err2 h m hd n r s => .err2 h m (e.keep _ _ hd noT_xd n).1 (e.keep _ _ hd noT_xd n).2 (Rep.monoZ e r) (Rep.monoZ e s)
theorem RepL.monoZ {w : Wd} {L L' : Ly} {H H' : Hp} (e : Ez L H L' H') : ∀ {v : List V} {d : List D}, RepL w L H v d → RepL w L' H' v d
  | _, _, .nil => .nil
  | _, _, .cons h t => .cons (Rep.monoZ e h) (RepL.monoZ e t)
end
theorem Rep.monoY {w : Wd} {L L' : Ly} {H H' : Hp} (e : Ey L H L' H') {v : V} {d : D} (r : Rep w L H v d) : Rep w L' H' v d := r.monoZ e.z
theorem RepL.monoY {w : Wd} {L L' : Ly} {H H' : Hp} (e : Ey L H L' H') {v : List V} {d : List D} (r : RepL w L H v d) : RepL w L' H' v d := r.monoZ e.z
theorem Rep.mono {w : Wd} {L L' : Ly} {H H' : Hp} (e : Ex L H L' H') {v : V} {d : D} (r : Rep w L H v d) : Rep w L' H' v d := r.monoY e.y
theorem RepL.mono {w : Wd} {L L' : Ly} {H H' : Hp} (e : Ex L H L' H') {v : List V} {d : List D} (r : RepL w L H v d) : RepL w L' H' v d := r.monoY e.y
theorem RepL.len {w : Wd} {L : Ly} {H : Hp} : ∀ {vs : List V} {ds : List D}, RepL w L H vs ds → vs.length = ds.length
  | _, _, .nil => rfl
  | _, _, .cons _ t => by simp [t.len]
theorem RepL.get {w : Wd} {L : Ly} {H : Hp} : ∀ {vs : List V} {ds : List D} {i : Nat} {d : D}, RepL w L H vs ds → ds[i]? = some d → ∃ v, vs[i]? = some v ∧ Rep w L H v d
  | _, _, _, _, .nil, e => by simp at e
  | _, _, 0, _, .cons h t, e => by
    simp at e
    subst e
    exact ⟨_, rfl, h⟩
  | _, _, i + 1, _, .cons h t, e => by
    obtain ⟨v, q, r⟩ := t.get (i := i) (by simpa using e)
    exact ⟨v, by simpa using q, r⟩
theorem RepL.get' {w : Wd} {L : Ly} {H : Hp} : ∀ {vs : List V} {ds : List D} {i : Nat} {v : V}, RepL w L H vs ds → vs[i]? = some v → ∃ d, ds[i]? = some d ∧ Rep w L H v d
  | _, _, _, _, .nil, e => by simp at e
  | _, _, 0, _, .cons h t, e => by
    simp at e
    subst e
    exact ⟨_, rfl, h⟩
  | _, _, i + 1, _, .cons h t, e => by
    obtain ⟨v, q, r⟩ := t.get' (i := i) (by simpa using e)
    exact ⟨v, by simpa using q, r⟩
theorem RepL.app {w : Wd} {L : Ly} {H : Hp} : ∀ {vs ws : List V} {ds es : List D}, RepL w L H vs ds → RepL w L H ws es → RepL w L H (vs ++ ws) (ds ++ es)
  | _, _, _, _, .nil, s => s
  | _, _, _, _, .cons h t, s => .cons h (t.app s)
theorem RepL.take {w : Wd} {L : Ly} {H : Hp} : ∀ {vs : List V} {ds : List D} (n : Nat), RepL w L H vs ds → RepL w L H (vs.take n) (ds.take n)
  | _, _, 0, _ => .nil
  | _, _, _ + 1, .nil => .nil
  | _, _, n + 1, .cons h t => .cons h (t.take n)
theorem RepL.drop {w : Wd} {L : Ly} {H : Hp} : ∀ {vs : List V} {ds : List D} (n : Nat), RepL w L H vs ds → RepL w L H (vs.drop n) (ds.drop n)
  | _, _, 0, r => r
  | _, _, _ + 1, .nil => .nil
  | _, _, n + 1, .cons _ t => t.drop n
theorem RepL.set {w : Wd} {L : Ly} {H : Hp} {v : V} {d : D} (r : Rep w L H v d) : ∀ {vs : List V} {ds : List D} (n : Nat), RepL w L H vs ds → RepL w L H (vs.set n v) (ds.set n d)
  | _, _, _, .nil => .nil
  | _, _, 0, .cons _ t => .cons r t
  | _, _, n + 1, .cons h t => .cons h (t.set r n)
theorem RepL.rev {w : Wd} {L : Ly} {H : Hp} : ∀ {vs : List V} {ds : List D}, RepL w L H vs ds → RepL w L H vs.reverse ds.reverse
  | _, _, .nil => .nil
  | _, _, .cons h t => by
    rw [List.reverse_cons, List.reverse_cons]
    exact t.rev.app (.cons h .nil)
/-! ### the store -/
/-- a cell's form, its parts taken out -/
def Shp (w : Wd) (H : Hp) (a : Addr) (vs : List V) : Ob → Prop
  | .lst _ => H a = some (.lst vs)
  | .dic kvs => H a = some (.dK ((kvs.map (·.1)).zip vs))
  | .dil kvs => ∃ o, H a = some (.frz o (.dK ((kvs.map (·.1)).zip vs)))
  | .dit kvs => H a = some (.dT ((kvs.map (·.1)).zip vs))
  | .ins x fs => ∃ C dx, w.mg x = some (.ref C) ∧ H a = some (.ins C dx ((fs.map (·.1)).zip vs))
theorem Shp.hp {w : Wd} {H : Hp} {a : Addr} {vs : List V} {o : Ob} (h : Shp w H a vs o) : ∃ u, H a = some u ∧ kdOf u ≠ 0 ∧ ∀ H' : Hp, H' a = some u → Shp w H' a vs o := by
  cases o with
  | lst xs => exact ⟨_, h, (fun z => nomatch z), fun _ e => e⟩
  | dic kvs => exact ⟨_, h, (fun z => nomatch z), fun _ e => e⟩
  | dit kvs => exact ⟨_, h, (fun z => nomatch z), fun _ e => e⟩
  | dil kvs =>
    obtain ⟨o, h⟩ := h
    exact ⟨_, h, (fun z => nomatch z), fun _ e => ⟨o, e⟩⟩
  | ins x fs =>
    obtain ⟨C, dx, h1, h2⟩ := h
    exact ⟨_, h2, (fun z => nomatch z), fun _ e => ⟨C, dx, h1, e⟩⟩
def ObR (w : Wd) (L : Ly) (H : Hp) (a : Addr) (o : Ob) : Prop := ∃ vs, Shp w H a vs o ∧ RepL w L H vs o.parts
structure Sto (w : Wd) (L : Ly) (H : Hp) (S : Store) : Prop where
  len : L.c.length = S.length
  nd : L.c.Nodup
  ob : ∀ (n : Nat) (o : Ob) (a : Addr), S[n]? = some o → L.c[n]? = some a → ObR w L H a o
  pr : ∀ a, a ∈ L.p → ∃ us, H a = some (.lst us)
  ap : ∀ a, a ∈ L.c → a ∉ L.p
  tab : LamX.Tabs w.T H
theorem ObR.get {w : Wd} {L : Ly} {H : Hp} {a : Addr} {o : Ob} (r : ObR w L H a o) : ∃ u, H a = some u := by
  obtain ⟨vs, h, _⟩ := r
  obtain ⟨u, hu, _⟩ := h.hp
  exact ⟨u, hu⟩
theorem Sto.there {w : Wd} {L : Ly} {H : Hp} {S : Store} (s : Sto w L H S) {a : Addr} (h : a ∈ L) : ∃ u, H a = some u := by
  rcases h with h | h
  · obtain ⟨n, e⟩ := List.mem_iff_getElem?.mp h
    have hn : n < S.length := by rw [← s.len]; exact (List.getElem?_eq_some_iff.mp e).1
    exact (s.ob n S[n] a (by simp [hn]) e).get
  · obtain ⟨us, e⟩ := s.pr a h
    exact ⟨_, e⟩
theorem Sto.no {w : Wd} {L : Ly} {H : Hp} {S : Store} (s : Sto w L H S) {p : Addr} (h : H p = none) : p ∉ L := fun z => by
  obtain ⟨u, e⟩ := s.there z
  rw [h] at e
  cases e
theorem Sto.ex {w : Wd} {L : Ly} {H : Hp} {S : Store} (s : Sto w L H S) {p : Addr} {o : HO} (h : H p = none) : Ex L H L (upd H p o) := Ex.new h (s.no h)
theorem ObR.monoZ {w : Wd} {L L' : Ly} {H H' : Hp} {a : Addr} {o : Ob} (e : Ez L H L' H') (k : ∀ u, H a = some u → kdOf u ≠ 0 → H' a = some u) (r : ObR w L H a o) : ObR w L' H' a o := by
  obtain ⟨vs, h, q⟩ := r
  obtain ⟨u, hu, k0, hs⟩ := h.hp
  exact ⟨vs, hs H' (k u hu k0), q.monoZ e⟩
theorem ObR.monoY {w : Wd} {L L' : Ly} {H H' : Hp} {a : Addr} {o : Ob} (e : Ey L H L' H') (k : ∀ u, H a = some u → kdOf u ≠ 0 → H' a = some u) (r : ObR w L H a o) : ObR w L' H' a o := r.monoZ e.z k
theorem ObR.mono {w : Wd} {L L' : Ly} {H H' : Hp} {a : Addr} {o : Ob} (e : Ex L H L' H') (k : ∀ u, H a = some u → H' a = some u) (r : ObR w L H a o) : ObR w L' H' a o := r.monoY e.y fun u h _ => k u h
theorem tabs_new {T : Tb} {H : Hp} {p : Addr} {o : HO} (t : LamX.Tabs T H) (hp : H p = none) : LamX.Tabs T (upd H p o) := t.ext fun b u h => by rw [upd_ne (ne_of_none h hp)]; exact h
theorem tabs_writeK {T : Tb} {H : Hp} {a : Addr} {u o : HO} (t : LamX.Tabs T H) (ha : H a = some u) (hk : kdOf u ≠ 0) : LamX.Tabs T (upd H a o) := fun p hp => by
  obtain ⟨ps, h1, h2, h3⟩ := t p hp
  have n1 : p.1 ≠ a := fun e => by rw [e, ha] at h1; cases h1; exact hk rfl
  refine ⟨ps, by rw [upd_ne n1]; exact h1, h2, fun pos cv hc => ?_⟩
  obtain ⟨c, e1, e2⟩ := h3 pos cv hc
  have n2 : c ≠ a := fun e => by
    rw [e, ha] at e2
    unfold LamX.CodeO at e2
    cases e2
    exact hk rfl
  exact ⟨c, e1, by rw [upd_ne n2]; exact e2⟩
theorem tabs_write {T : Tb} {H : Hp} {a : Addr} {us vs : List V} (t : LamX.Tabs T H) (ha : H a = some (.lst us)) : LamX.Tabs T (upd H a (.lst vs)) := tabs_writeK t ha fun z => nomatch z
theorem Sto.new {w : Wd} {L : Ly} {H : Hp} {S : Store} {p : Addr} {o : HO} (s : Sto w L H S) (hp : H p = none) : Sto w L (upd H p o) S :=
  ⟨s.len, s.nd, fun n u a h1 h2 => (s.ob n u a h1 h2).mono (s.ex hp) fun v hv => by rw [upd_ne (ne_of_none hv hp)]; exact hv,
    fun a ha => let ⟨u, hu⟩ := s.pr a ha; ⟨u, by rw [upd_ne (ne_of_none hu hp)]; exact hu⟩, s.ap, tabs_new s.tab hp⟩
theorem Sto.newO {w : Wd} {L : Ly} {H : Hp} {S : Store} {p : Addr} {ho : HO} {o : Ob} {vs : List V} (s : Sto w L H S) (hp : H p = none) (sh : Shp w (upd H p ho) p vs o) (r : RepL w L H vs o.parts) : Sto w (L.add p) (upd H p ho) (S ++ [o]) := by
  have ex : Ex L H (L.add p) (upd H p ho) := Ex.newM hp (s.no hp)
  refine ⟨by simp [s.len], ?_, fun n u a h1 h2 => ?_, fun a ha => ?_, fun a ha hb => ?_, tabs_new s.tab hp⟩
  · show (L.c ++ [p]).Nodup
    rw [List.nodup_append]
    refine ⟨s.nd, by simp, fun a ha b hb => ?_⟩
    simp at hb
    subst hb
    exact fun e => s.no hp (.inl (e ▸ ha))
  · replace h2 : (L.c ++ [p])[n]? = some a := h2
    by_cases hn : n < S.length
    · rw [List.getElem?_append_left hn] at h1
      rw [List.getElem?_append_left (by rw [s.len]; exact hn)] at h2
      exact (s.ob n u a h1 h2).mono ex fun v hv => by rw [upd_ne (ne_of_none hv hp)]; exact hv
    · rw [List.getElem?_append_right (by omega)] at h1
      rw [List.getElem?_append_right (by rw [s.len]; omega), s.len] at h2
      have e : n - S.length = 0 := by
        have := (List.getElem?_eq_some_iff.mp h1).1
        simp at this
        omega
      rw [e] at h1 h2
      simp at h1 h2
      subst h1 h2
      exact ⟨vs, sh, r.mono ex⟩
  · obtain ⟨u, hu⟩ := s.pr a ha
    exact ⟨u, by rw [upd_ne (ne_of_none hu hp)]; exact hu⟩
  · rcases List.mem_append.mp ha with z | z
    · exact s.ap a z hb
    · simp at z
      subst z
      exact s.no hp (.inr hb)
theorem Sto.newM {w : Wd} {L : Ly} {H : Hp} {S : Store} {p : Addr} {vs : List V} {ds : List D} (s : Sto w L H S) (hp : H p = none) (r : RepL w L H vs ds) : Sto w (L.add p) (upd H p (.lst vs)) (S ++ [.lst ds]) := s.newO hp (show (upd H p (.lst vs)) p = some (.lst vs) from upd_same) r
theorem nodup_at {L : List Addr} (h : L.Nodup) {i j : Nat} {a : Addr} (x : L[i]? = some a) (y : L[j]? = some a) : i = j := by
  obtain ⟨h1, e1⟩ := List.getElem?_eq_some_iff.mp x
  obtain ⟨h2, e2⟩ := List.getElem?_eq_some_iff.mp y
  exact (List.getElem_inj h).mp (e1.trans e2.symm)
theorem Sto.wrO {w : Wd} {L : Ly} {H : Hp} {S : Store} {a : Addr} {n : Nat} {o u : HO} (s : Sto w L H S) (ha : L.c[n]? = some a) (hu : H a = some u) (hk : kdOf o = kdOf u) (nf : NoF u) : Ex L H L (upd H a o) :=
  Ex.write (List.mem_of_getElem? ha) (s.ap a (List.mem_of_getElem? ha)) hu hk nf
theorem Sto.wr {w : Wd} {L : Ly} {H : Hp} {S : Store} {a : Addr} {n : Nat} {vs us : List V} (s : Sto w L H S) (ha : L.c[n]? = some a) (hu : H a = some (.lst us)) : Ex L H L (upd H a (.lst vs)) := s.wrO ha hu rfl noF_lst
theorem Sto.writeO {w : Wd} {L : Ly} {H : Hp} {S : Store} {a : Addr} {n : Nat} {vs : List V} {o : Ob} {ho u : HO} (s : Sto w L H S) (ha : L.c[n]? = some a) (hu : H a = some u) (k0 : kdOf u ≠ 0) (hk : kdOf ho = kdOf u) (sh : Shp w (upd H a ho) a vs o) (r : RepL w L H vs o.parts) : Sto w L (upd H a ho) (S.set n o) := by
  have hm : a ∈ L.c := List.mem_of_getElem? ha
  have ez : Ez L H L (upd H a ho) := ⟨⟨[], by simp⟩, fun b u h _ n => ⟨by rw [upd_ne (show b ≠ a from fun e => n (by rw [e]; exact .inl hm))]; exact h, n⟩, .wr hu hk⟩
  refine ⟨by simp [s.len], s.nd, fun m u b h1 h2 => ?_, fun b hb => ?_, s.ap, tabs_writeK s.tab hu k0⟩
  · by_cases e : m = n
    · subst e
      have hl : m < S.length := by rw [← s.len]; exact (List.getElem?_eq_some_iff.mp ha).1
      rw [List.getElem?_set_self hl] at h1
      rw [ha] at h2
      cases h1
      cases h2
      exact ⟨vs, sh, r.monoZ ez⟩
    · rw [List.getElem?_set_ne (Ne.symm e)] at h1
      have nb : b ≠ a := fun z => e (nodup_at s.nd (z ▸ h2) ha)
      exact (s.ob m u b h1 h2).monoZ ez fun v hv _ => by rw [upd_ne nb]; exact hv
  · obtain ⟨u, hu⟩ := s.pr b hb
    exact ⟨u, by rw [upd_ne (show b ≠ a from fun e => s.ap a hm (by rw [← e]; exact hb))]; exact hu⟩
theorem Sto.write {w : Wd} {L : Ly} {H : Hp} {S : Store} {a : Addr} {n : Nat} {us vs : List V} {ds : List D} (s : Sto w L H S) (ha : L.c[n]? = some a) (hu : H a = some (.lst us)) (r : RepL w L H vs ds) : Sto w L (upd H a (.lst vs)) (S.set n (.lst ds)) := s.writeO ha hu (fun z => nomatch z) rfl (show (upd H a (.lst vs)) a = some (.lst vs) from upd_same) r
/-! ### a list in the making -/
theorem Ey.of {L L' : Ly} {H H' : Hp} (hc : L'.c = L.c) (k : ∀ b o, H b = some o → NoT o → b ∉ L → H' b = some o ∧ b ∉ L') (kd : KindK L H H') : Ey L H L' H' := ⟨⟨[], by rw [hc]; simp⟩, k, kd⟩
theorem Rep.go {w : Wd} {L L' : Ly} {H H' : Hp} (hc : L'.c = L.c) (k : ∀ b o, H b = some o → NoT o → b ∉ L → H' b = some o ∧ b ∉ L') (kd : KindK L H H') {v : V} {d : D} (r : Rep w L H v d) : Rep w L' H' v d := r.monoY (.of hc k kd)
theorem RepL.go {w : Wd} {L L' : Ly} {H H' : Hp} (hc : L'.c = L.c) (k : ∀ b o, H b = some o → NoT o → b ∉ L → H' b = some o ∧ b ∉ L') (kd : KindK L H H') {v : List V} {d : List D} (r : RepL w L H v d) : RepL w L' H' v d := r.monoY (.of hc k kd)
/-- it is laid -/
theorem prv_keep {w : Wd} {L : Ly} {H : Hp} {S : Store} {p : Addr} {o : HO} (s : Sto w L H S) (hp : H p = none) : ∀ b u, H b = some u → NoT u → b ∉ L → (upd H p o) b = some u ∧ b ∉ L.prv p := fun b u h _ n =>
  ⟨by rw [upd_ne (ne_of_none h hp)]; exact h, fun z => by
    rcases z with z | z
    · exact n (.inl z)
    · rcases List.mem_cons.mp z with z | z
      · exact ne_of_none h hp z
      · exact n (.inr z)⟩
theorem ObR.go {w : Wd} {L L' : Ly} {H H' : Hp} {a : Addr} {o : Ob} (hc : L'.c = L.c) (k : ∀ b o, H b = some o → NoT o → b ∉ L → H' b = some o ∧ b ∉ L') (kd : KindK L H H') (ka : ∀ u, H a = some u → H' a = some u) (r : ObR w L H a o) : ObR w L' H' a o := r.monoY (.of hc k kd) fun u h _ => ka u h
theorem Sto.prv {w : Wd} {L : Ly} {H : Hp} {S : Store} {p : Addr} {us : List V} (s : Sto w L H S) (hp : H p = none) : Sto w (L.prv p) (upd H p (.lst us)) S := by
  refine ⟨s.len, s.nd, fun n u a h1 h2 => ObR.go (L := L) (L' := L.prv p) rfl (prv_keep s hp) (.new hp) (fun v hv => by rw [upd_ne (ne_of_none hv hp)]; exact hv) (s.ob n u a h1 h2), fun a ha => ?_, fun a ha hb => ?_, tabs_new s.tab hp⟩
  · rcases List.mem_cons.mp ha with z | z
    · subst z
      exact ⟨us, upd_same⟩
    · obtain ⟨u, hu⟩ := s.pr a z
      exact ⟨u, by rw [upd_ne (ne_of_none hu hp)]; exact hu⟩
  · rcases List.mem_cons.mp hb with z | z
    · subst z
      exact s.no hp (.inl ha)
    · exact s.ap a ha z
/-- it grows -/
theorem wpr_keep {L : Ly} {H : Hp} {p : Addr} {o : HO} (hp : p ∈ L.p) : ∀ b u, H b = some u → NoT u → b ∉ L → (upd H p o) b = some u ∧ b ∉ L := fun b u h _ n =>
  ⟨by rw [upd_ne (show b ≠ p from fun e => n (.inr (by rw [e]; exact hp)))]; exact h, n⟩
theorem Sto.wpk {w : Wd} {L : Ly} {H : Hp} {S : Store} {p : Addr} {us : List V} (s : Sto w L H S) (hp : p ∈ L.p) : KindK L H (upd H p (.lst us)) := by
  obtain ⟨us0, hus0⟩ := s.pr p hp
  exact .wr hus0 rfl noF_lst
theorem Sto.wpr {w : Wd} {L : Ly} {H : Hp} {S : Store} {p : Addr} {us : List V} (s : Sto w L H S) (hp : p ∈ L.p) : Sto w L (upd H p (.lst us)) S := by
  obtain ⟨us0, hus0⟩ := s.pr p hp
  refine ⟨s.len, s.nd, fun n u a h1 h2 => (s.ob n u a h1 h2).go rfl (wpr_keep hp) (s.wpk hp) fun v hv => ?_, fun a ha => ?_, s.ap, tabs_write s.tab hus0⟩
  · rw [upd_ne (show a ≠ p from fun e => s.ap a (List.mem_of_getElem? h2) (by rw [e]; exact hp))]
    exact hv
  · by_cases e : a = p
    · subst e
      exact ⟨us, upd_same⟩
    · obtain ⟨u, hu⟩ := s.pr a ha
      exact ⟨u, by rw [upd_ne e]; exact hu⟩
/-- it is done -/
theorem unp_keep {L : Ly} {H : Hp} {p : Addr} : ∀ b u, H b = some u → NoT u → b ∉ L.prv p → H b = some u ∧ b ∉ L := fun b u h _ n =>
  ⟨h, fun z => by
    rcases z with z | z
    · exact n (.inl z)
    · exact n (.inr (List.mem_cons_of_mem _ z))⟩
theorem Sto.unp {w : Wd} {L : Ly} {H : Hp} {S : Store} {p : Addr} (s : Sto w (L.prv p) H S) : Sto w L H S :=
  ⟨s.len, s.nd, fun n u a h1 h2 => ObR.go (L := L.prv p) (L' := L) rfl unp_keep (KindK.refl _ _) (fun _ h => h) (s.ob n u a h1 h2), fun a ha => s.pr a (List.mem_cons_of_mem _ ha), fun a ha hb => s.ap a ha (List.mem_cons_of_mem _ hb), s.tab⟩
/-! ### results -/
inductive Res (α : Type) where
  | ok (a : α) (S : Store)
  | exc (x : Str) (fs : List D) (S : Store)
  | no
def Res.bind {α β : Type} (r : Res α) (f : α → Store → Res β) : Res β :=
  match r with
  | .ok a S => f a S
  | .exc x fs S => .exc x fs S
  | .no => .no
@[simp] theorem bind_ok {α β : Type} (a : α) (S : Store) (f : α → Store → Res β) : (Res.ok a S).bind f = f a S := rfl
@[simp] theorem bind_exc {α β : Type} (x : Str) (fs : List D) (S : Store) (f : α → Store → Res β) : (Res.exc x fs S : Res α).bind f = .exc x fs S := rfl
@[simp] theorem bind_no {α β : Type} (f : α → Store → Res β) : (Res.no : Res α).bind f = .no := rfl
/-- an option's value, or no -/
def opt {α : Type} (o : Option α) (S : Store) : Res α :=
  match o with
  | some a => .ok a S
  | none => .no
@[simp] theorem opt_some {α : Type} (a : α) (S : Store) : opt (some a) S = .ok a S := rfl
@[simp] theorem opt_none {α : Type} (S : Store) : (opt none S : Res α) = .no := rfl
/-- what is wanted of exceptions: nothing is let out (none), or a wish -/
structure XW where
  T : Tb
  E : Option XK
  er : Option (Addr × Addr × Option Addr) := none
abbrev XW.q (W : XW) : XW := ⟨W.T, none, W.er⟩
/-- an error's own fields -/
def ExF (w : Wd) (L : Ly) (H : Hp) (od : Option Addr) : List D → Prop
  | [] => od = none
  | [a, b] => ∃ d va vb, od = some d ∧ H d = some (.xd [("most", vb), ("many", va)]) ∧ d ∉ L ∧ Rep w L H va a ∧ Rep w L H vb b
  | _ => False
def Post {α : Type} (w : Wd) (W : XW) (L : Ly) (H : Hp) (R : α → Store → Ly → Hp → Prop) : Res α → Prop
  | .ok a S => ∀ L' H', Ex L H L' H' → Sto w L' H' S → R a S L' H'
  | .exc x fs S => match W.E with
    | none => False
    | some E => ∀ L' H' C od, Ex L H L' H' → Sto w L' H' S → w.mg x = some (.ref C) → ExF w L' H' od fs → E (.ref C) od H'
  | .no => False
section
variable {α β : Type} {w : Wd} {W : XW} {L L' : Ly} {H H' : Hp} {R R' : α → Store → Ly → Hp → Prop} {r : Res α}
theorem Post.mono (e : Ex L H L' H') (p : Post w W L H R r) : Post w W L' H' R r := by
  cases r with
  | ok a S => exact fun L2 H2 e2 s => p L2 H2 (e.trans e2) s
  | exc x fs S =>
    cases W with | mk T E er => cases E with
    | none => exact p
    | some E => exact fun L2 H2 C od e2 s => p L2 H2 C od (e.trans e2) s
  | no => exact p
theorem Post.imp (p : Post w W L H R r) (h : ∀ a S L' H', Ex L H L' H' → Sto w L' H' S → R a S L' H' → R' a S L' H') : Post w W L H R' r := by
  cases r with
  | ok a S => exact fun L2 H2 e2 s => h a S L2 H2 e2 s (p L2 H2 e2 s)
  | exc x fs S => cases W with | mk T E er => cases E <;> exact p
  | no => exact p
theorem Post.bind {f : α → Store → Res β} {R : β → Store → Ly → Hp → Prop} (p : Post w W L H R (r.bind f)) : Post w W L H (fun a S L' H' => Post w W L' H' R (f a S)) r := by
  cases r with
  | ok a S => exact fun L2 H2 e2 s => Post.mono e2 p
  | exc x fs S => cases W with | mk T E er => cases E <;> exact p
  | no => exact p
/-- the two at once -/
theorem Post.step {f : α → Store → Res β} {R : β → Store → Ly → Hp → Prop} (p : Post w W L H R (r.bind f)) (h : ∀ a S L' H', Ex L H L' H' → Sto w L' H' S → Post w W L' H' R (f a S) → R' a S L' H') : Post w W L H R' r :=
  p.bind.imp h
theorem Post.here {a : α} {S : Store} (p : Post w W L H R (.ok a S)) (s : Sto w L H S) : R a S L H := p L H (Ex.refl L H) s
theorem Post.there {a : α} {S : Store} (p : Post w W L H R (.ok a S)) (e : Ex L H L' H') (s : Sto w L' H' S) : R a S L' H' := p L' H' e s
end
/-! ### environments -/
def EnvR (w : Wd) (L : Ly) (H : Hp) (ρ : Rho) (σ : L2.St) : Prop := ρ.length = σ.length ∧ ∀ (i : Nat) (d : D), ρ[i]? = some (some d) → ∃ v, σ[i]? = some (some v) ∧ Rep w L H v d
theorem EnvR.mono {w : Wd} {L L' : Ly} {H H' : Hp} {ρ : Rho} {σ : L2.St} (e : Ex L H L' H') (r : EnvR w L H ρ σ) : EnvR w L' H' ρ σ :=
  ⟨r.1, fun i d h => let ⟨v, h1, h2⟩ := r.2 i d h; ⟨v, h1, h2.mono e⟩⟩
theorem EnvR.set {w : Wd} {L : Ly} {H : Hp} {ρ : Rho} {σ : L2.St} {v : V} {d : D} (i : Nat) (r : EnvR w L H ρ σ) (q : Rep w L H v d) : EnvR w L H (ρ.set i (some d)) (σ.set i (some v)) := by
  refine ⟨by simp [r.1], fun j e h => ?_⟩
  by_cases hj : i = j
  · subst hj
    by_cases hl : i < ρ.length
    · rw [List.getElem?_set_self hl] at h
      cases h
      exact ⟨v, List.getElem?_set_self (by rw [← r.1]; exact hl), q⟩
    · rw [List.getElem?_eq_none (by simp; omega)] at h
      cases h
  · rw [List.getElem?_set_ne hj] at h ⊢
    exact r.2 j e h
theorem EnvR.monoY {w : Wd} {L L' : Ly} {H H' : Hp} {ρ : Rho} {σ : L2.St} (e : Ey L H L' H') (r : EnvR w L H ρ σ) : EnvR w L' H' ρ σ :=
  ⟨r.1, fun i d h => let ⟨v, h1, h2⟩ := r.2 i d h; ⟨v, h1, h2.monoY e⟩⟩
def wipeD (ρ : Rho) : List Nat → Rho
  | [] => ρ
  | v :: vs => (wipeD ρ vs).set v none
theorem EnvR.unset {w : Wd} {L : Ly} {H : Hp} {ρ : Rho} {σ : L2.St} (i : Nat) (r : EnvR w L H ρ σ) : EnvR w L H (ρ.set i none) (σ.set i none) := by
  refine ⟨by simp [r.1], fun j e h => ?_⟩
  by_cases hj : i = j
  · subst hj
    by_cases hl : i < ρ.length
    · rw [List.getElem?_set_self hl] at h
      cases h
    · rw [List.getElem?_eq_none (by simp; omega)] at h
      cases h
  · rw [List.getElem?_set_ne hj] at h ⊢
    exact r.2 j e h
theorem EnvR.wipe {w : Wd} {L : Ly} {H : Hp} {ρ : Rho} {σ : L2.St} (r : EnvR w L H ρ σ) : ∀ vs : List Nat, EnvR w L H (wipeD ρ vs) (L2.wipe σ vs)
  | [] => r
  | v :: vs => (r.wipe vs).unset v
end Ls
/-! LsB: expressions: combinators over data, and that the hand layer's readings follow from them. -/
namespace Ls
open PySem PySem.Spec PyProof.Rows L2
abbrev SE := Rho → Store → Res D
abbrev SB := Rho → Store → Res Bool
abbrev SA := Rho → Store → Res (List D)
abbrev QV (w : Wd) (Q : VK) : D → Store → Ly → Hp → Prop := fun d _ L H => ∀ v, Rep w L H v d → Q v H
abbrev QA (w : Wd) (Q : List V → Hp → Prop) : List D → Store → Ly → Hp → Prop := fun ds _ L H => ∀ vs, RepL w L H vs ds → Q vs H
abbrev QB (Q : Bool → Hp → Prop) : Bool → Store → Ly → Hp → Prop := fun b _ _ H => Q b H
def RE (w : Wd) (W : XW) (t : TE) (f : SE) : Prop := ∀ (ρ : Rho) (σ : L2.St) (L : Ly) (H : Hp) (S : Store) (Q : VK), EnvR w L H ρ σ → Sto w L H S → Post w W L H (QV w Q) (f ρ S) → t σ H Q
def RT (w : Wd) (W : XW) (t : TT) (f : SB) : Prop := ∀ (ρ : Rho) (σ : L2.St) (L : Ly) (H : Hp) (S : Store) (Q : Bool → Hp → Prop), EnvR w L H ρ σ → Sto w L H S → Post w W L H (QB Q) (f ρ S) → t σ H Q
def RA (w : Wd) (W : XW) (t : TA) (f : SA) : Prop := ∀ (ρ : Rho) (σ : L2.St) (L : Ly) (H : Hp) (S : Store) (Q : List V → Hp → Prop), EnvR w L H ρ σ → Sto w L H S → Post w W L H (QA w Q) (f ρ S) → t σ H Q
abbrev wd (X : Cx) (W : XW) : Wd := ⟨X.K, X.mg, W.T, W.er⟩
def DE (X : Cx) (W : XW) (e : Expr) (f : SE) : Prop := ∃ t, PE X e t ∧ RE (wd X W) W t f
def DT (X : Cx) (W : XW) (e : Expr) (f : SB) : Prop := ∃ t, PT X e t ∧ RT (wd X W) W t f
def DW (X : Cx) (W : XW) (e : Expr) (f : SB) : Prop := ∃ t, PW X e t ∧ RT (wd X W) W t f
def DA (X : Cx) (W : XW) (es : List Expr) (f : SA) : Prop := ∃ t, PA X es t ∧ RA (wd X W) W t f
/-! ### names, constants -/
def eVar (i : Nat) : SE := fun ρ S => match ρ[i]? with
  | some (some d) => .ok d S
  | _ => .no
def eC (d : D) : SE := fun _ S => .ok d S
section
variable {X : Cx} {W : XW} {w : Wd}
theorem re_var (i : Nat) : RE w W (tVar i) (eVar i) := fun ρ σ L H S Q er st p => by
  unfold eVar at p
  cases h : ρ[i]? with
  | none => rw [h] at p; exact p.elim
  | some o =>
    rw [h] at p
    cases o with
    | none => exact p.elim
    | some d =>
      obtain ⟨v, hv, r⟩ := er.2 i d h
      exact ⟨v, hv, p.here st v r⟩
theorem re_c {v : V} {d : D} (h : ∀ L H, Rep w L H v d) : RE w W (tC v) (eC d) := fun ρ σ L H S Q er st p => p.here st v (h L H)
theorem de_var (i : Nat) {x : Str} {pos : Pos} (hN : X.N[i]? = some x := by rfl) (hv : Vis X.env.scope x := by first | exact Or.inl rfl | exact Or.inr (Or.inl rfl) | exact Or.inr (Or.inr rfl)) (hd : (x == ("__debug__" : Str)) = false := by decide)
    (hcd : (x == ("__classdict__" : Str)) = false := by decide) : DE X W (.Name x pos) (eVar i) := ⟨_, pe_var hN hv hd hcd, re_var i⟩
theorem de_int {i : Int} {j : Nat} {pos : Pos} : DE X W (.Constant (.int i) j pos) (eC (.int i)) := ⟨_, pe_int, re_c fun _ _ => .int i⟩
theorem de_bl {b : Bool} {j : Nat} {pos : Pos} : DE X W (.Constant (.bool b) j pos) (eC (.bl b)) := ⟨_, pe_bl, re_c fun _ _ => .bl b⟩
theorem de_non {j : Nat} {pos : Pos} : DE X W (.Constant .none j pos) (eC .non) := ⟨_, pe_non, re_c fun _ _ => .non⟩
theorem de_str {x : Str} {j : Nat} {pos : Pos} : DE X W (.Constant (.str x) j pos) (eC (.str x)) := ⟨_, pe_str, re_c fun _ _ => .str x⟩
/-- a def or a class of the module, as a value; a whole number of the module -/
theorem de_gl {x : Str} {a : Addr} {pos : Pos} (hm : X.mg x = some (.ref a)) (hg : Gl X x := by rfl) (hd : (x == ("__debug__" : Str)) = false := by decide) : DE X W (.Name x pos) (eC (.gl x)) :=
  ⟨_, pe_glob (v := .ref a) hg hm rfl hd, re_c fun _ _ => .gl hm⟩
theorem de_gint {x : Str} {i : Int} {t : Tok} {pos : Pos} (hm : X.mg x = some (.int i t)) (hg : Gl X x := by rfl) (hd : (x == ("__debug__" : Str)) = false := by decide) : DE X W (.Name x pos) (eC (.int i)) :=
  ⟨_, pe_glob (v := .int i) hg hm ⟨_, rfl⟩ hd, re_c fun _ _ => .int i⟩
theorem de_gstr {x y : Str} {t : Tok} {pos : Pos} (hm : X.mg x = some (.str y t)) (hg : Gl X x := by rfl) (hd : (x == ("__debug__" : Str)) = false := by decide) : DE X W (.Name x pos) (eC (.str y)) :=
  ⟨_, pe_glob (v := .str y) hg hm ⟨_, rfl⟩ hd, re_c fun _ _ => .str y⟩
/-! ### operators by data -/
def eOp (f : D → D → Store → Res D) (a b : SE) : SE := fun ρ S => (a ρ S).bind fun x S1 => (b ρ S1).bind fun y S2 => f x y S2
def OpD (w : Wd) (r : R2) (f : D → D → Store → Res D) : Prop := ∀ (W : XW) (L : Ly) (H : Hp) (S : Store) (x y : V) (a b : D) (Q : VK), Sto w L H S → Rep w L H x a → Rep w L H y b → Post w W L H (QV w Q) (f a b S) → r x y H Q
theorem re_op {r : R2} {f : D → D → Store → Res D} {ta tb : TE} {sa sb : SE} (h : OpD w r f) (ha : RE w W ta sa) (hb : RE w W tb sb) : RE w W (tOp r ta tb) (eOp f sa sb) := fun ρ σ L H S Q er st p =>
  ha ρ σ L H S _ er st (p.step fun a S1 L1 H1 e1 s1 p1 v1 r1 => hb ρ σ L1 H1 S1 _ (er.mono e1) s1 (p1.step fun b S2 L2 H2 e2 s2 p2 v2 r2 => h W L2 H2 S2 _ _ _ _ Q s2 (r1.mono e2) r2 p2))
theorem de_op {op : Operator} {r : R2} {f : D → D → Store → Res D} {a b : Expr} {sa sb : SE} {pos : Pos} (ho : OpR X (binaryOp op) r) (hd : OpD (wd X W) r f) (ha : DE X W a sa) (hb : DE X W b sb) : DE X W (.BinOp a op b pos) (eOp f sa sb) := by
  obtain ⟨ta, pa, ra⟩ := ha
  obtain ⟨tb, pb, rb⟩ := hb
  exact ⟨_, pe_op ho pa pb, re_op hd ra rb⟩
theorem de_cmp {op : CmpOp} {r : R2} {f : D → D → Store → Res D} {a b : Expr} {sa sb : SE} {pos : Pos} (ho : OpR X (compareOp op) r) (hd : OpD (wd X W) r f) (ha : DE X W a sa) (hb : DE X W b sb) (hm : behindInMarks op b = false) : DE X W (.Compare a [op] [b] pos) (eOp f sa sb) := by
  obtain ⟨ta, pa, ra⟩ := ha
  obtain ⟨tb, pb, rb⟩ := hb
  exact ⟨_, pe_cmpR ho pa pb hm, re_op hd ra rb⟩
/-- the truth that a value is -/
def asB (d : D) (S : Store) : Res Bool := match d with
  | .bl b => .ok b S
  | _ => .no
def tOfE (f : SE) : SB := fun ρ S => (f ρ S).bind asB
theorem asB_bl {d : D} {S : Store} {L : Ly} {H : Hp} {v : V} {R : Bool → Store → Ly → Hp → Prop} (p : Post w W L H R (asB d S)) (s : Sto w L H S) (r : Rep w L H v d) : ∃ b, v = .bl b ∧ R b S L H := by
  cases r with
  | bl b => exact ⟨b, rfl, p.here s⟩
  | _ => exact (show False from p).elim
theorem rt_of {t : TE} {f : SE} (h : RE w W t f) : RT w W (tB t) (tOfE f) := fun ρ σ L H S Q er st p =>
  h ρ σ L H S _ er st (p.step fun d S1 L1 H1 e1 s1 p1 v r => let ⟨b, e, q⟩ := asB_bl p1 s1 r; ⟨b, e, q⟩)
theorem dt_cmp {op : CmpOp} {r : R2} {f : D → D → Store → Res D} {a b : Expr} {sa sb : SE} {pos : Pos} (ho : OpR X (compareOp op) r) (hd : OpD (wd X W) r f) (ha : DE X W a sa) (hb : DE X W b sb) (hm : behindInMarks op b = false) : DT X W (.Compare a [op] [b] pos) (tOfE (eOp f sa sb)) := by
  obtain ⟨ta, pa, ra⟩ := ha
  obtain ⟨tb, pb, rb⟩ := hb
  exact ⟨_, pt_cmpR ho pa pb hm, rt_of (re_op hd ra rb)⟩
/-- an expression of truth kind as a test -/
theorem dt_val {e : Expr} {f : SE} (h : DE X W e f) (he : ∀ whole, isTrue e X.env whole = (do let v ← whole; standAt e.pos; holding [v] (truthy v)) := by intro _; rfl) : DT X W e (tOfE f) := by
  obtain ⟨t, p, r⟩ := h
  exact ⟨_, pt_val p he, rt_of r⟩
/-! ### a op b op' c -/
def eChain (f g : D → D → Store → Res D) (a b c : SE) : SE := fun ρ S => (a ρ S).bind fun x S1 => (b ρ S1).bind fun y S2 => (f x y S2).bind fun z S3 => (asB z S3).bind fun k S4 =>
  if k = true then (c ρ S4).bind fun u S5 => g y u S5 else .ok (.bl false) S4
theorem re_chain {r r' : R2} {f g : D → D → Store → Res D} {ta tb tc : TE} {sa sb sc : SE} (h : OpD w r f) (h' : OpD w r' g) (ha : RE w W ta sa) (hb : RE w W tb sb) (hc : RE w W tc sc) : RE w W (tChain r r' ta tb tc) (eChain f g sa sb sc) := fun ρ σ L H S Q er st p =>
  ha ρ σ L H S _ er st (p.step fun a S1 L1 H1 e1 s1 p1 v1 r1 => hb ρ σ L1 H1 S1 _ (er.mono e1) s1 (p1.step fun b S2 L2 H2 e2 s2 p2 v2 r2 =>
    h W L2 H2 S2 _ _ _ _ _ s2 (r1.mono e2) r2 (p2.step fun z S3 L3 H3 e3 s3 p3 v3 r3 => by
      obtain ⟨k, ek, q⟩ := asB_bl p3.bind s3 r3
      refine ⟨k, ek, ?_⟩
      cases k with
      | false =>
        rw [if_neg Bool.false_ne_true] at q ⊢
        exact q.here s3 _ (.bl false)
      | true =>
        rw [if_pos rfl] at q ⊢
        exact hc ρ σ L3 H3 S3 _ (((er.mono e1).mono e2).mono e3) s3 (q.step fun u S5 L5 H5 e5 s5 p5 v5 r5 => h' W L5 H5 S5 _ _ _ _ Q s5 ((r2.mono e3).mono e5) r5 p5))))
theorem de_chain {op op' : CmpOp} {r r' : R2} {f g : D → D → Store → Res D} {a b c : Expr} {sa sb sc : SE} {pos : Pos} (ho : OpR X (compareOp op) r) (hd : OpD (wd X W) r f) (ho' : OpR X (compareOp op') r') (hd' : OpD (wd X W) r' g) (ha : DE X W a sa) (hb : DE X W b sb) (hc : DE X W c sc)
    (hm : lastMarks [op, op'] [b, c] = false := by with_unfolding_all rfl) : DE X W (.Compare a [op, op'] [b, c] pos) (eChain f g sa sb sc) := by
  obtain ⟨ta, pa, ra⟩ := ha
  obtain ⟨tb, pb, rb⟩ := hb
  obtain ⟨tc, pc, rc⟩ := hc
  exact ⟨_, pe_chain ho ho' pa pb pc hm, re_chain hd hd' ra rb rc⟩
theorem dt_chain {op op' : CmpOp} {r r' : R2} {f g : D → D → Store → Res D} {a b c : Expr} {sa sb sc : SE} {pos : Pos} (ho : OpR X (compareOp op) r) (hd : OpD (wd X W) r f) (ho' : OpR X (compareOp op') r') (hd' : OpD (wd X W) r' g) (ha : DE X W a sa) (hb : DE X W b sb) (hc : DE X W c sc)
    (hm : lastMarks [op, op'] [b, c] = false := by with_unfolding_all rfl) : DT X W (.Compare a [op, op'] [b, c] pos) (tOfE (eChain f g sa sb sc)) := by
  obtain ⟨ta, pa, ra⟩ := ha
  obtain ⟨tb, pb, rb⟩ := hb
  obtain ⟨tc, pc, rc⟩ := hc
  exact ⟨_, pt_chain ho ho' pa pb pc hm, rt_of (re_chain hd hd' ra rb rc)⟩
/-! ### and, or, not -/
def eAnd (a b : SE) : SE := fun ρ S => (a ρ S).bind fun x S1 => (asB x S1).bind fun k S2 => if k = true then b ρ S2 else .ok (.bl false) S2
def eOr (a b : SE) : SE := fun ρ S => (a ρ S).bind fun x S1 => (asB x S1).bind fun k S2 => if k = true then .ok (.bl true) S2 else b ρ S2
def eNot (a : SE) : SE := fun ρ S => (a ρ S).bind fun x S1 => (asB x S1).bind fun k S2 => .ok (.bl (!k)) S2
def bAnd (a b : SB) : SB := fun ρ S => (a ρ S).bind fun k S1 => if k = true then b ρ S1 else .ok false S1
def bOr (a b : SB) : SB := fun ρ S => (a ρ S).bind fun k S1 => if k = true then .ok true S1 else b ρ S1
def bNot (a : SB) : SB := fun ρ S => (a ρ S).bind fun k S1 => .ok (!k) S1
def eIf (c : SB) (a b : SE) : SE := fun ρ S => (c ρ S).bind fun k S1 => if k = true then a ρ S1 else b ρ S1
variable {a b c : Expr} {rest : List Expr} {pos : Pos} {sa sb : SE} {ba bb : SB}
theorem de_one {op : BoolOp} (h : DE X W a sa) : DE X W (.BoolOp op [a] pos) sa := by
  obtain ⟨t, p, r⟩ := h
  exact ⟨_, pe_one p, r⟩
theorem de_and (ha : DE X W a sa) (hb : DE X W (.BoolOp .And (b :: rest) pos) sb) : DE X W (.BoolOp .And (a :: b :: rest) pos) (eAnd sa sb) := by
  obtain ⟨ta, pa, ra⟩ := ha
  obtain ⟨tb, pb, rb⟩ := hb
  refine ⟨_, pe_and pa pb, fun ρ σ L H S Q er st p => ra ρ σ L H S _ er st (p.step fun x S1 L1 H1 e1 s1 p1 v r => ?_)⟩
  obtain ⟨k, ek, q⟩ := asB_bl p1.bind s1 r
  refine ⟨k, ek, ?_⟩
  cases k with
  | false =>
    rw [if_neg Bool.false_ne_true] at q ⊢
    exact q.here s1 _ (.bl false)
  | true =>
    rw [if_pos rfl] at q ⊢
    exact rb ρ σ L1 H1 S1 _ (er.mono e1) s1 q
theorem de_or (ha : DE X W a sa) (hb : DE X W (.BoolOp .Or (b :: rest) pos) sb) : DE X W (.BoolOp .Or (a :: b :: rest) pos) (eOr sa sb) := by
  obtain ⟨ta, pa, ra⟩ := ha
  obtain ⟨tb, pb, rb⟩ := hb
  refine ⟨_, pe_or pa pb, fun ρ σ L H S Q er st p => ra ρ σ L H S _ er st (p.step fun x S1 L1 H1 e1 s1 p1 v r => ?_)⟩
  obtain ⟨k, ek, q⟩ := asB_bl p1.bind s1 r
  refine ⟨k, ek, ?_⟩
  cases k with
  | false =>
    rw [if_neg Bool.false_ne_true] at q ⊢
    exact rb ρ σ L1 H1 S1 _ (er.mono e1) s1 q
  | true =>
    rw [if_pos rfl] at q ⊢
    exact q.here s1 _ (.bl true)
theorem de_not (ha : DE X W a sa) : DE X W (.UnaryOp .Not a pos) (eNot sa) := by
  obtain ⟨ta, pa, ra⟩ := ha
  refine ⟨_, pe_not pa, fun ρ σ L H S Q er st p => ra ρ σ L H S _ er st (p.step fun x S1 L1 H1 e1 s1 p1 v r => ?_)⟩
  obtain ⟨k, ek, q⟩ := asB_bl p1.bind s1 r
  exact ⟨k, ek, q.here s1 _ (.bl _)⟩
theorem DW.dt {e : Expr} {f : SB} (h : DW X W e f) : DT X W e f := by
  obtain ⟨t, p, r⟩ := h
  exact ⟨t, p.pt, r⟩
theorem dw_and1 (h : DT X W a ba) : DW X W (.BoolOp .And [a] pos) ba := by
  obtain ⟨t, p, r⟩ := h
  exact ⟨t, pw_and1 p, r⟩
theorem dw_or1 (h : DT X W a ba) : DW X W (.BoolOp .Or [a] pos) ba := by
  obtain ⟨t, p, r⟩ := h
  exact ⟨t, pw_or1 p, r⟩
theorem dw_and (ha : DT X W a ba) (hb : DW X W (.BoolOp .And (b :: rest) pos) bb) : DW X W (.BoolOp .And (a :: b :: rest) pos) (bAnd ba bb) := by
  obtain ⟨ta, pa, ra⟩ := ha
  obtain ⟨tb, pb, rb⟩ := hb
  refine ⟨_, pw_and pa pb, fun ρ σ L H S Q er st p => ra ρ σ L H S _ er st (p.step fun k S1 L1 H1 e1 s1 q => ?_)⟩
  cases k with
  | false =>
    rw [if_neg Bool.false_ne_true] at q
    exact (show (if false = true then _ else _) from by rw [if_neg Bool.false_ne_true]; exact q.here s1)
  | true =>
    rw [if_pos rfl] at q
    exact (show (if true = true then _ else _) from by rw [if_pos rfl]; exact rb ρ σ L1 H1 S1 _ (er.mono e1) s1 q)
theorem dw_or (ha : DT X W a ba) (hb : DW X W (.BoolOp .Or (b :: rest) pos) bb) : DW X W (.BoolOp .Or (a :: b :: rest) pos) (bOr ba bb) := by
  obtain ⟨ta, pa, ra⟩ := ha
  obtain ⟨tb, pb, rb⟩ := hb
  refine ⟨_, pw_or pa pb, fun ρ σ L H S Q er st p => ra ρ σ L H S _ er st (p.step fun k S1 L1 H1 e1 s1 q => ?_)⟩
  cases k with
  | false =>
    rw [if_neg Bool.false_ne_true] at q
    exact (show (if false = true then _ else _) from by rw [if_neg Bool.false_ne_true]; exact rb ρ σ L1 H1 S1 _ (er.mono e1) s1 q)
  | true =>
    rw [if_pos rfl] at q
    exact (show (if true = true then _ else _) from by rw [if_pos rfl]; exact q.here s1)
theorem dt_not (ha : DT X W a ba) : DT X W (.UnaryOp .Not a pos) (bNot ba) := by
  obtain ⟨ta, pa, ra⟩ := ha
  exact ⟨_, pt_not pa, fun ρ σ L H S Q er st p => ra ρ σ L H S _ er st (p.step fun k S1 L1 H1 e1 s1 q => q.here s1)⟩
theorem de_if (hc : DT X W c bb) (ha : DE X W a sa) (hb : DE X W b sb) : DE X W (.IfExp c a b pos) (eIf bb sa sb) := by
  obtain ⟨tc, pc, rc⟩ := hc
  obtain ⟨ta, pa, ra⟩ := ha
  obtain ⟨tb, pb, rb⟩ := hb
  refine ⟨_, pe_ifExp pc pa pb, fun ρ σ L H S Q er st p => rc ρ σ L H S _ er st (p.step fun k S1 L1 H1 e1 s1 q => ?_)⟩
  cases k with
  | false =>
    rw [if_neg Bool.false_ne_true] at q
    exact (show (if false = true then _ else _) from by rw [if_neg Bool.false_ne_true]; exact rb ρ σ L1 H1 S1 _ (er.mono e1) s1 q)
  | true =>
    rw [if_pos rfl] at q
    exact (show (if true = true then _ else _) from by rw [if_pos rfl]; exact ra ρ σ L1 H1 S1 _ (er.mono e1) s1 q)
/-! ### argument lists, displays -/
def aNil : SA := fun _ S => .ok [] S
def aCons (a : SE) (r : SA) : SA := fun ρ S => (a ρ S).bind fun x S1 => (r ρ S1).bind fun xs S2 => .ok (x :: xs) S2
theorem da_nil : DA X W [] aNil := ⟨_, pa_nil, fun ρ σ L H S Q er st p => p.here st _ .nil⟩
theorem da_cons {e : Expr} {es : List Expr} {f : SE} {g : SA} (ha : DE X W e f) (hr : DA X W es g) (hs : starEach (e :: es) X.env = (false, eval e X.env) :: starEach es X.env := by rfl) : DA X W (e :: es) (aCons f g) := by
  obtain ⟨ta, pa, ra⟩ := ha
  obtain ⟨tb, pb, rb⟩ := hr
  exact ⟨_, pa_cons pa pb hs, fun ρ σ L H S Q er st p => ra ρ σ L H S _ er st (p.step fun x S1 L1 H1 e1 s1 p1 v r => rb ρ σ L1 H1 S1 _ (er.mono e1) s1 (p1.step fun xs S2 L2 H2 e2 s2 p2 vs rs => p2.here s2 _ (.cons (r.mono e2) rs)))⟩
def small (n : Nat) : Bool := n ≤ 1000000
theorem small_le {n : Nat} (h : small n = true) : n ≤ sizeLine := by
  have := of_decide_eq_true h
  rw [sizeLine_eq]
  omega
theorem small_lt {n : Nat} (h : small n = true) : n < sizeLine := by
  have := of_decide_eq_true h
  rw [sizeLine_eq]
  omega
/-- a new tuple, a new list that nobody writes, a new cell -/
def mkTup (xs : List D) (S : Store) : Res D := if small xs.length = true then .ok (.tup xs) S else .no
def mkLst (xs : List D) (S : Store) : Res D := if small xs.length = true then .ok (.lst xs) S else .no
def mkCel (xs : List D) (S : Store) : Res D := if small xs.length = true then .ok (.ref S.length) (S ++ [.lst xs]) else .no
theorem mkTup_ok {xs : List D} {S : Store} {L : Ly} {H : Hp} {vs : List V} {Q : VK} (p : Post w W L H (QV w Q) (mkTup xs S)) (s : Sto w L H S) (r : RepL w L H vs xs) : vs.length ≤ sizeLine ∧ ∀ q, H q = none → Q (.ref q) (upd H q (.tup vs)) := by
  unfold mkTup at p
  by_cases h : small xs.length = true
  · rw [if_pos h] at p
    refine ⟨by rw [r.len]; exact small_le h, fun q hq => ?_⟩
    exact p.there (s.ex hq) (s.new hq) _ (.tup (.inl upd_same) (s.no hq) (r.mono (s.ex hq)))
  · rw [if_neg h] at p
    exact p.elim
theorem mkLst_ok {xs : List D} {S : Store} {L : Ly} {H : Hp} {vs : List V} {Q : VK} (p : Post w W L H (QV w Q) (mkLst xs S)) (s : Sto w L H S) (r : RepL w L H vs xs) : vs.length ≤ sizeLine ∧ ∀ q, H q = none → Q (.ref q) (upd H q (.lst vs)) := by
  unfold mkLst at p
  by_cases h : small xs.length = true
  · rw [if_pos h] at p
    refine ⟨by rw [r.len]; exact small_le h, fun q hq => ?_⟩
    exact p.there (s.ex hq) (s.new hq) _ (.lst upd_same (s.no hq) (r.mono (s.ex hq)))
  · rw [if_neg h] at p
    exact p.elim
theorem mkCel_ok {xs : List D} {S : Store} {L : Ly} {H : Hp} {vs : List V} {Q : VK} (p : Post w W L H (QV w Q) (mkCel xs S)) (s : Sto w L H S) (r : RepL w L H vs xs) : vs.length ≤ sizeLine ∧ ∀ q, H q = none → Q (.ref q) (upd H q (.lst vs)) := by
  unfold mkCel at p
  by_cases h : small xs.length = true
  · rw [if_pos h] at p
    refine ⟨by rw [r.len]; exact small_le h, fun q hq => ?_⟩
    refine p.there (Ex.newM hq (s.no hq)) (s.newM hq r) _ (.ref ?_ (.lst upd_same))
    rw [← s.len, List.getElem?_append_right (Nat.le_refl _), Nat.sub_self]
    rfl
  · rw [if_neg h] at p
    exact p.elim
def eTup (f : SA) : SE := fun ρ S => (f ρ S).bind mkTup
def eLst (f : SA) : SE := fun ρ S => (f ρ S).bind mkLst
def eCel (f : SA) : SE := fun ρ S => (f ρ S).bind mkCel
variable {es : List Expr} {fa : SA}
theorem de_tup {x1 : Nat} (h : DA X W es fa) : DE X W (.Tuple es x1 pos) (eTup fa) := by
  obtain ⟨t, p, r⟩ := h
  exact ⟨_, pe_tup p, fun ρ σ L H S Q er st p => r ρ σ L H S _ er st (p.step fun xs S1 L1 H1 e1 s1 p1 vs rs => mkTup_ok p1 s1 rs)⟩
theorem de_lst (h : DA X W es fa) : DE X W (.List es pos) (eLst fa) := by
  obtain ⟨t, p, r⟩ := h
  exact ⟨_, pe_lst p, fun ρ σ L H S Q er st p => r ρ σ L H S _ er st (p.step fun xs S1 L1 H1 e1 s1 p1 vs rs => mkLst_ok p1 s1 rs)⟩
theorem de_cel (h : DA X W es fa) : DE X W (.List es pos) (eCel fa) := by
  obtain ⟨t, p, r⟩ := h
  exact ⟨_, pe_lst p, fun ρ σ L H S Q er st p => r ρ σ L H S _ er st (p.step fun xs S1 L1 H1 e1 s1 p1 vs rs => mkCel_ok p1 s1 rs)⟩
/-! ### calls of built-ins, methods, subscripts, slices, by data -/
def eCB (f : List D → Store → Res D) (g : SA) : SE := fun ρ S => (g ρ S).bind f
def CallD (w : Wd) (r : List V → Hp → VK → Prop) (f : List D → Store → Res D) : Prop := ∀ (W : XW) (L : Ly) (H : Hp) (S : Store) (vs : List V) (ds : List D) (Q : VK), Sto w L H S → RepL w L H vs ds → Post w W L H (QV w Q) (f ds S) → r vs H Q
theorem re_cb {r : List V → Hp → VK → Prop} {f : List D → Store → Res D} {t : TA} {g : SA} (h : CallD w r f) (hr : RA w W t g) : RE w W (tCB r t) (eCB f g) := fun ρ σ L H S Q er st p =>
  hr ρ σ L H S _ er st (p.step fun ds S1 L1 H1 e1 s1 p1 vs rs => h W L1 H1 S1 vs ds Q s1 rs p1)
theorem de_callB {x : Str} {p : Pos} {e : Expr} {id : String} {r : List V → Hp → VK → Prop} {f : List D → Store → Res D} (hc : CallR X (.builtin id) r) (hd : CallD (wd X W) r f) (hm : X.mg x = none) (hv : bootBuiltins x = some (.builtin id)) (ha : DA X W (e :: es) fa) (hg : Gl X x := by rfl)
    (hn : x ≠ "__name__" := by decide) (hdb : (x == ("__debug__" : Str)) = false := by decide) (he : starEach (e :: es) X.env = (false, eval e X.env) :: starEach es X.env := by rfl) (hpl : (backTo pos (starEach es X.env)).any (·.1) = false := by rfl) :
    DE X W (.Call (.Name x p) (e :: es) [] pos) (eCB f fa) := by
  obtain ⟨t, q, r⟩ := ha
  exact ⟨_, pe_callB hc hg hm hv q hn hdb he hpl, re_cb hd r⟩
theorem de_callTy {x : Str} {p : Pos} {e : Expr} {T : String} {r : List V → Hp → VK → Prop} {f : List D → Store → Res D} (hc : CallR X (.type T) r) (hd : CallD (wd X W) r f) (hm : X.mg x = none) (hv : bootBuiltins x = some (.type T)) (ha : DA X W (e :: es) fa) (hg : Gl X x := by rfl)
    (hn : x ≠ "__name__" := by decide) (hdb : (x == ("__debug__" : Str)) = false := by decide) (he : starEach (e :: es) X.env = (false, eval e X.env) :: starEach es X.env := by rfl) (hpl : (backTo pos (starEach es X.env)).any (·.1) = false := by rfl) :
    DE X W (.Call (.Name x p) (e :: es) [] pos) (eCB f fa) := by
  obtain ⟨t, q, r⟩ := ha
  exact ⟨_, pe_callTy hc hg hm hv q hn hdb he hpl, re_cb hd r⟩
theorem de_ix {r : R2} {f : D → D → Store → Res D} (hr : IxR X r) (hd : OpD (wd X W) r f) (ha : DE X W a sa) (hb : DE X W b sb) (hs : PlainIx b := by exact fun _ _ => rfl) : DE X W (.Subscript a b pos) (eOp f sa sb) := by
  obtain ⟨ta, pa, ra⟩ := ha
  obtain ⟨tb, pb, rb⟩ := hb
  exact ⟨_, pe_ix hr pa pb hs, re_op hd ra rb⟩
/-- a slice's part -/
abbrev SO := Rho → Store → Res (Option Int)
def oNone : SO := fun _ S => .ok none S
def asI (d : D) (S : Store) : Res Int := match d with
  | .int i => .ok i S
  | _ => .no
def oSome (f : SE) : SO := fun ρ S => (f ρ S).bind fun d S1 => (asI d S1).bind fun i S2 => .ok (some i) S2
theorem asI_int {d : D} {S : Store} {L : Ly} {H : Hp} {v : V} {R : Int → Store → Ly → Hp → Prop} (p : Post w W L H R (asI d S)) (s : Sto w L H S) (r : Rep w L H v d) : ∃ i, v = .int i ∧ R i S L H := by
  cases r with
  | int i => exact ⟨i, rfl, p.here s⟩
  | _ => exact (show False from p).elim
def RO (w : Wd) (W : XW) (t : TO) (f : SO) : Prop := ∀ (ρ : Rho) (σ : L2.St) (L : Ly) (H : Hp) (S : Store) (Q : Option Int → Hp → Prop), EnvR w L H ρ σ → Sto w L H S → Post w W L H (fun o _ _ H' => Q o H') (f ρ S) → t σ H Q
def DO (X : Cx) (W : XW) (e : Option Expr) (f : SO) : Prop := ∃ t, PO X e t ∧ RO (wd X W) W t f
theorem do_none : DO X W none oNone := ⟨_, po_none, fun ρ σ L H S Q er st p => p.here st⟩
theorem do_some (h : DE X W a sa) : DO X W (some a) (oSome sa) := by
  obtain ⟨t, p, r⟩ := h
  refine ⟨_, po_some p, fun ρ σ L H S Q er st p => r ρ σ L H S _ er st (p.step fun d S1 L1 H1 e1 s1 p1 v rv => ?_)⟩
  obtain ⟨i, e, q⟩ := asI_int p1.bind s1 rv
  exact ⟨i, e, q.here s1⟩
def eSl (f : D → Option Int → Option Int → Store → Res D) (a : SE) (lo hi : SO) : SE := fun ρ S => (a ρ S).bind fun x S1 => (lo ρ S1).bind fun l S2 => (hi ρ S2).bind fun h S3 => f x l h S3
def SlD (w : Wd) (r : V → Option Int → Option Int → Hp → VK → Prop) (f : D → Option Int → Option Int → Store → Res D) : Prop := ∀ (W : XW) (L : Ly) (H : Hp) (S : Store) (x : V) (d : D) (lo hi : Option Int) (Q : VK), Sto w L H S → Rep w L H x d → Post w W L H (QV w Q) (f d lo hi S) → r x lo hi H Q
theorem de_slice {r : V → Option Int → Option Int → Hp → VK → Prop} {f : D → Option Int → Option Int → Store → Res D} {lo hi : Option Expr} {fl fh : SO} {p2 : Pos} (hr : SlR X r) (hd : SlD (wd X W) r f) (ha : DE X W a sa) (hl : DO X W lo fl) (hh : DO X W hi fh) :
    DE X W (.Subscript a (.Slice lo hi none p2) pos) (eSl f sa fl fh) := by
  obtain ⟨ta, pa, ra⟩ := ha
  obtain ⟨tl, pl, rl⟩ := hl
  obtain ⟨th, ph, rh⟩ := hh
  exact ⟨_, pe_slice hr pa pl ph, fun ρ σ L H S Q er st p => ra ρ σ L H S _ er st (p.step fun x S1 L1 H1 e1 s1 p1 v r => rl ρ σ L1 H1 S1 _ (er.mono e1) s1 (p1.step fun l S2 L2 H2 e2 s2 p2 =>
    rh ρ σ L2 H2 S2 _ ((er.mono e1).mono e2) s2 (p2.step fun h S3 L3 H3 e3 s3 p3 => hd W L3 H3 S3 v x l h Q s3 ((r.mono e2).mono e3) p3)))⟩
/-- methods of built-in types -/
def eBM (kd : D → Bool) (f : D → List D → Store → Res D) (o : SE) (g : SA) : SE := fun ρ S => (o ρ S).bind fun x S1 => if kd x = true then (g ρ S1).bind fun ds S2 => f x ds S2 else .no
def TyD (w : Wd) (T : String) (kd : D → Bool) : Prop := ∀ (L : Ly) (H : Hp) (S : Store) (x : V) (d : D), Sto w L H S → Rep w L H x d → kd d = true → tyV w.K T x H
def MtD (w : Wd) (r : V → List V → Hp → VK → Prop) (f : D → List D → Store → Res D) : Prop := ∀ (W : XW) (L : Ly) (H : Hp) (S : Store) (x : V) (d : D) (vs : List V) (ds : List D) (Q : VK),
  Sto w L H S → Rep w L H x d → RepL w L H vs ds → Post w W L H (QV w Q) (f d ds S) → r x vs H Q
theorem de_bm {o e : Expr} {T id : String} {name : Str} {apos cpos : Pos} {r : V → List V → Hp → VK → Prop} {kd : D → Bool} {f : D → List D → Store → Res D} {so : SE} (pa : PlainAttrs T) (slot : Slot T name id) (hty : typeOf (.builtin id) = pure (.type "method_descriptor")) (hm : MtR X id r)
    (ht : TyD (wd X W) T kd) (hd : MtD (wd X W) r f) (ho : DE X W o so) (ha : DA X W (e :: es) fa)
    (hbase : attributeBase o name X.env (eval o X.env) = eval o X.env := by rfl)
    (hfew : ((backTo cpos (starEach (e :: es) X.env)).all (fun x => !x.1) && (backToKw cpos (keywordEach [] X.env)).all (fun x => x.1.isSome)
      && decide ((e :: es).length + ([] : List Keyword).length + (if ([] : List Keyword).isEmpty then 0 else 1) < 30)) = true := by rfl)
    (hline : (apos.endLine == cpos.line) = true := by rfl) (hs : starEach (e :: es) X.env = (false, eval e X.env) :: starEach es X.env := by rfl) (hplain : (backTo cpos (starEach es X.env)).any (·.1) = false := by rfl) :
    DE X W (.Call (.Attribute o name apos) (e :: es) [] cpos) (eBM kd f so fa) := by
  obtain ⟨to, po, ro⟩ := ho
  obtain ⟨ta, pa', ra⟩ := ha
  refine ⟨_, pe_bm pa slot hty hm po pa' hbase hfew hline hs hplain, fun ρ σ L H S Q er st p => ro ρ σ L H S _ er st (p.step fun x S1 L1 H1 e1 s1 p1 v rv => ?_)⟩
  by_cases hk : kd x = true
  · rw [if_pos hk] at p1
    exact ⟨ht _ _ _ _ _ s1 rv hk, ra ρ σ L1 H1 S1 _ (er.mono e1) s1 (p1.step fun ds S2 L2 H2 e2 s2 p2 vs rs => hd W L2 H2 S2 v x vs ds Q s2 (rv.mono e2) rs p2)⟩
  · rw [if_neg hk] at p1
    exact p1.elim
theorem de_bm0 {o : Expr} {T id : String} {name : Str} {apos cpos : Pos} {r : V → List V → Hp → VK → Prop} {kd : D → Bool} {f : D → List D → Store → Res D} {so : SE} (pa : PlainAttrs T) (slot : Slot T name id) (hty : typeOf (.builtin id) = pure (.type "method_descriptor")) (hm : MtR X id r)
    (ht : TyD (wd X W) T kd) (hd : MtD (wd X W) r f) (ho : DE X W o so)
    (hbase : attributeBase o name X.env (eval o X.env) = eval o X.env := by rfl) (hline : (apos.endLine == cpos.line) = true := by rfl) :
    DE X W (.Call (.Attribute o name apos) [] [] cpos) (eBM kd f so aNil) := by
  obtain ⟨to, po, ro⟩ := ho
  refine ⟨_, pe_bm0 pa slot hty hm po hbase hline, fun ρ σ L H S Q er st p => ro ρ σ L H S _ er st (p.step fun x S1 L1 H1 e1 s1 p1 v rv => ?_)⟩
  by_cases hk : kd x = true
  · rw [if_pos hk] at p1
    exact ⟨ht _ _ _ _ _ s1 rv hk, hd W L1 H1 S1 v x [] [] Q s1 rv .nil p1⟩
  · rw [if_neg hk] at p1
    exact p1.elim
/-- a built-in type by its name -/
theorem de_ty {x : Str} {T : String} {p : Pos} (hm : X.mg x = none) (hv : bootBuiltins x = some (.type T)) (hg : Gl X x := by rfl) (hn : x ≠ "__name__" := by decide) (hd : (x == ("__debug__" : Str)) = false := by decide) : DE X W (.Name x p) (eC (.ty T)) :=
  ⟨_, pe_bltn (v := .ty T) hg hm hv rfl hn hd, re_c fun _ _ => .ty T⟩
end
end Ls
/-! LsC: Python's operators and built-ins as functions of data. -/
namespace Ls
open PySem PySem.Spec PyProof.Rows L2
section
variable {X : Cx} {W : XW} {w : Wd}
theorem mkTup_alt {xs : List D} {S : Store} {L : Ly} {H : Hp} {v : V} {Q : VK} (p : Post w W L H (QV w Q) (mkTup xs S)) (s : Sto w L H S) (r : Rep w L H v (.tup xs)) : Q v H := by
  unfold mkTup at p
  by_cases h : small xs.length = true
  · rw [if_pos h] at p
    exact p.here s _ r
  · rw [if_neg h] at p
    exact p.elim
theorem mkTup_small {xs : List D} {S : Store} {L : Ly} {H : Hp} {R : D → Store → Ly → Hp → Prop} (p : Post w W L H R (mkTup xs S)) : xs.length ≤ sizeLine := by
  unfold mkTup at p
  by_cases h : small xs.length = true
  · exact small_le h
  · rw [if_neg h] at p
    exact p.elim
/-! ### + - * // % ** << >> & ^ -/
def dAdd : D → D → Store → Res D
  | .int i, .int j, S => .ok (.int (i + j)) S
  | .str x, .str y, S => if small (x.length + y.length) = true then .ok (.str (x ++ y)) S else .no
  | .tup xs, .tup ys, S => mkTup (xs ++ ys) S
  | .lst xs, .lst ys, S => mkLst (xs ++ ys) S
  | _, _, _ => .no
theorem de_add {a b : Expr} {sa sb : SE} {pos : Pos} (ha : DE X W a sa) (hb : DE X W b sb) : DE X W (.BinOp a .Add b pos) (eOp dAdd sa sb) := by
  refine de_op (op_add.or (op_add_str.or (op_catA.or op_cat))) ?_ ha hb
  intro W L H S x y a b Q st rx ry p
  cases rx <;> cases ry <;> first | exact (show False from p).elim | skip
  case int.int i j => exact .inl ⟨i, j, rfl, rfl, p.here st _ (.int _)⟩
  case str.str i j =>
    refine .inr (.inl ⟨i, j, rfl, rfl, ?_⟩)
    by_cases h : small (i.length + j.length) = true
    · replace p : Post _ W L H (QV _ Q) (if small (i.length + j.length) = true then .ok (.str (i ++ j)) S else .no) := p
      rw [if_pos h] at p
      exact ⟨small_le h, p.here st _ (.str _)⟩
    · replace p : Post _ W L H (QV _ Q) (if small (i.length + j.length) = true then .ok (.str (i ++ j)) S else .no) := p
      rw [if_neg h] at p
      exact p.elim
  case tup.tup a xs ds h n r b ys es h' n' r' =>
    refine .inr (.inr (.inl ⟨a, b, xs, ys, rfl, rfl, .inl h, .inl h', ?_, fun e => ?_, fun e e' => ?_, fun e e' q hq => ?_⟩))
    · have := mkTup_small p
      rw [List.length_append, ← r.len, ← r'.len] at this
      exact this
    · subst e
      cases r
      exact mkTup_alt p st (.tup h' n' r')
    · subst e'
      cases r'
      replace p : Post _ W L H (QV _ Q) (mkTup (ds ++ []) S) := p
      rw [List.append_nil] at p
      exact mkTup_alt p st (.tup h n r)
    · exact (mkTup_ok p st (r.app r')).2 q hq
  case lst.lst a xs ds h n r b ys es h' n' r' =>
    have := mkLst_ok p st (r.app r')
    refine .inr (.inr (.inr ⟨a, b, xs, ys, rfl, rfl, h, h', ?_, this.2⟩))
    rw [← List.length_append]
    exact this.1
/-- whole numbers alone -/
def dInt (c : Int → Int → Bool) (f : Int → Int → D) : D → D → Store → Res D
  | .int i, .int j, S => if c i j = true then .ok (f i j) S else .no
  | _, _, _ => .no
theorem od_int {C : Int → Int → Prop} {c : Int → Int → Bool} {g : Int → Int → V} {f : Int → Int → D} (hc : ∀ i j, c i j = true → C i j) (hf : ∀ (w : Wd) L H i j, Rep w L H (g i j) (f i j)) : OpD w (rI C g) (dInt c f) := by
  intro W L H S x y a b Q st rx ry p
  cases rx <;> cases ry <;> first | exact (show False from p).elim | skip
  rename_i i j
  replace p : Post w W L H (QV w Q) (if c i j = true then .ok (f i j) S else .no) := p
  by_cases h : c i j = true
  · rw [if_pos h] at p
    exact ⟨i, j, rfl, rfl, hc i j h, p.here st _ (hf w L H i j)⟩
  · rw [if_neg h] at p
    exact p.elim
def dInt0 (f : Int → Int → D) : D → D → Store → Res D
  | .int i, .int j, S => .ok (f i j) S
  | _, _, _ => .no
theorem od_int0 {g : Int → Int → V} {f : Int → Int → D} (hf : ∀ (w : Wd) L H i j, Rep w L H (g i j) (f i j)) : OpD w (rI0 g) (dInt0 f) := by
  intro W L H S x y a b Q st rx ry p
  cases rx <;> cases ry <;> first | exact (show False from p).elim | skip
  rename_i i j
  exact ⟨i, j, rfl, rfl, (show Post w W L H (QV w Q) (.ok (f i j) S) from p).here st _ (hf w L H i j)⟩
variable {a b : Expr} {sa sb : SE} {pos : Pos}
abbrev dSub : D → D → Store → Res D := dInt0 fun i j => .int (i - j)
theorem de_sub (ha : DE X W a sa) (hb : DE X W b sb) : DE X W (.BinOp a .Sub b pos) (eOp dSub sa sb) := de_op op_sub (od_int0 fun _ _ _ _ _ => .int _) ha hb
/-- a number of at most 2^22 bits -/
def bigOk (i : Int) : Bool := decide (Builtin.Int.intBits i ≤ 4194304)
def mulOk (i j : Int) : Bool := bigOk i && bigOk j
/-- t * 1 is t itself -/
theorem tuple_same (l : Addr) (items : Array Value) (n : Nat) (dd : Option Addr) (sl : Array (Option Value)) (u : Tok) :
    Meets (Builtin.«tuple.__mul__» ⟨[.ref l, .int 1 u], []⟩) (fun _ R s => s.heap.get? l = some { cls := .type "tuple", dict := dd, data := .seq items n, slots := sl } ∧ R (.ok (.ret (Value.ref l))) s) :=
  .of_wp fun prog w A R s h => by
    obtain ⟨hp, g, d, tk, os⟩ := s
    obtain ⟨hl, h⟩ := h
    have f1 := AutoSeq1.idx_int
    have no : (decide ((1 : Int) < -(2 ^ 63)) || decide ((1 : Int) ≥ 2 ^ 63)) = false := by decide
    have yes : (items.isEmpty || (1 : Int) == 1) = true := by simp
    wp_walk using wpAny_loadPart' hl
    repeat (first
      | (refine wpAny_ite_false (decide_eq_false (by rw [no]; decide)) ?_; wp_walk using wpAny_loadPart' hl)
      | (refine wpAny_ite_true (decide_eq_true yes) ?_; wp_walk using wpAny_loadPart' hl))
    exact ⟨_, rfl, h⟩
/-- t * 0 is new and has nothing -/
theorem tuple_zero (l : Addr) (items : Array Value) (n : Nat) (dd : Option Addr) (sl : Array (Option Value)) (u : Tok) (full : items.isEmpty = false) :
    Meets (Builtin.«tuple.__mul__» ⟨[.ref l, .int 0 u], []⟩) (fun _ R s => s.heap.get? l = some { cls := .type "tuple", dict := dd, data := .seq items n, slots := sl } ∧ R (.ok (.ret (Value.ref s.heap.objs.size))) { s with heap := s.heap.push { cls := Value.type "tuple", data := Data.seq #[] }, toks := s.toks }) :=
  .of_wp fun prog w A R s h => by
    obtain ⟨hp, g, d, tk, os⟩ := s
    obtain ⟨hl, h⟩ := h
    have f1 := AutoSeq1.idx_int
    have no : (decide ((0 : Int) < -(2 ^ 63)) || decide ((0 : Int) ≥ 2 ^ 63)) = false := by decide
    have no2 : (items.isEmpty || (0 : Int) == 1) = false := by rw [full]; decide
    have yes : (decide ((0 : Int) ≤ 0) || items.isEmpty) = true := by simp
    wp_walk using wpAny_loadPart' hl
    repeat (first
      | (refine wpAny_ite_false (decide_eq_false (by rw [no]; decide)) ?_; wp_walk using wpAny_loadPart' hl)
      | (refine wpAny_ite_false (decide_eq_false (by rw [no2]; decide)) ?_; wp_walk using wpAny_loadPart' hl)
      | (refine wpAny_ite_true (decide_eq_true yes) ?_; wp_walk using wpAny_loadPart' hl))
    exact ⟨_, rfl, h⟩
def rRep0 (K : PySem.W.Frag) : R2 := fun x y H Q => ∃ l xs, x = .ref l ∧ y = .int 0 ∧ SqT K H l xs ∧ xs ≠ [] ∧ ∀ q, H q = none → Q (.ref q) (upd H q (.tup []))
theorem op_rep0 : OpR X (binaryOp .Mult) (rRep0 X.K) := by
  intro pins s σ H x y v u Q I rx ry h
  obtain ⟨l, xs, rfl, rfl, hT, ne, q⟩ := h
  cases rx
  obtain ⟨t, rfl⟩ := ry
  obtain ⟨its, r, ⟨⟨cls, dd, data, sl⟩, ho, hc, n, hd⟩, hs⟩ := I.tuple hT
  simp only at hc hd
  subst hc hd
  have full : its.toArray.isEmpty = false := by
    cases its with
    | nil =>
      have := r.length
      exact absurd (List.eq_nil_of_length_eq_zero this) ne
    | cons a b => rfl
  refine wpAny_binaryOp_repeat_ref (T := "tuple") (U := "int") (by decide) ⟨_, ho, rfl⟩ (fun s' => typeIs_int s' 0 t) noFill_tuple_mul F.fills_int_mul F.slot_int_rmul repeat_tuple F.slot_int_index.lookup
    (call_meets F.slot_int_rmul (typeIs_int s 0 t) F.entry_int_rmul (F.args_int_rmul_2 _ _) (int_rmul_tuple 0 t l its.toArray n dd sl) ⟨ho, rfl, ⟨_, ho, rfl⟩, call_meets F.slot_tuple_mul ⟨_, ho, rfl⟩ F.entry_tuple_mul (F.args_tuple_mul_2 _ _) (tuple_zero l its.toArray n dd sl t full) ⟨ho, ?_⟩⟩)
  refine ⟨.ref s.heap.objs.size, _, I.laid (t' := s.toks) (o := .tup []) (fun b ob z => Heap.get?_push_of_some _ z) (Nat.le_refl _) ?_, rfl, q _ (I.hok.fresh (Nat.le_refl _))⟩
  exact ⟨Nat.zero_le _, [], .nil, IsTup.new _ _⟩
def rRep1 (K : PySem.W.Frag) : R2 := fun x y H Q => ∃ l xs, x = .ref l ∧ y = .int 1 ∧ SqT K H l xs ∧ Q (.ref l) H
theorem op_rep1 : OpR X (binaryOp .Mult) (rRep1 X.K) := by
  intro pins s σ H x y v u Q I rx ry h
  obtain ⟨l, xs, rfl, rfl, hT, q⟩ := h
  cases rx
  obtain ⟨t, rfl⟩ := ry
  obtain ⟨its, r, ⟨⟨cls, dd, data, sl⟩, ho, hc, n, hd⟩, hs⟩ := I.tuple hT
  simp only at hc hd
  subst hc hd
  exact wpAny_binaryOp_repeat_ref (T := "tuple") (U := "int") (by decide) ⟨_, ho, rfl⟩ (fun s' => typeIs_int s' 1 t) noFill_tuple_mul F.fills_int_mul F.slot_int_rmul repeat_tuple F.slot_int_index.lookup
    (call_meets F.slot_int_rmul (typeIs_int s 1 t) F.entry_int_rmul (F.args_int_rmul_2 _ _) (int_rmul_tuple 1 t l its.toArray n dd sl) ⟨ho, rfl, ⟨_, ho, rfl⟩, call_meets F.slot_tuple_mul ⟨_, ho, rfl⟩ F.entry_tuple_mul (F.args_tuple_mul_2 _ _) (tuple_same l its.toArray n dd sl t) ⟨ho, ⟨.ref l, H, I, rfl, q⟩⟩⟩)
abbrev rMulA (K : PySem.W.Frag) : R2 := fun x y H Q => rI CMulX (fun i j => .int (i * j)) x y H Q ∨ (rRep x y H Q ∨ (rRepT K x y H Q ∨ (rRep1 K x y H Q ∨ rRep0 K x y H Q)))
def tmOk (xs : List D) (k : Int) : Bool := !xs.isEmpty && decide (0 ≤ k) && Nat.ble k.natAbs 1000 && Nat.ble xs.length 1000
def dMul : D → D → Store → Res D
  | .int i, .int j, S => if mulOk i j = true then .ok (.int (i * j)) S else .no
  | .lst xs, .int k, S => if (small (xs.length * k.toNat) && Nat.ble k.natAbs 1000000) = true then .ok (.lst (List.replicate k.toNat xs).flatten) S else .no
  | .tup xs, .int k, S => if tmOk xs k = true then .ok (.tup (List.replicate k.toNat xs).flatten) S else .no
  | _, _, _ => .no
theorem RepL.repl {L : Ly} {H : Hp} {vs : List V} {ds : List D} (r : RepL w L H vs ds) : ∀ n : Nat, RepL w L H (List.replicate n vs).flatten (List.replicate n ds).flatten
  | 0 => .nil
  | n + 1 => by
    rw [List.replicate_succ, List.replicate_succ, List.flatten_cons, List.flatten_cons]
    exact r.app (r.repl n)
theorem od_mul : OpD w (rMulA w.K) dMul := by
  intro W L H S x y a b Q st rx ry p
  cases rx <;> cases ry <;> first | exact (show False from p).elim | skip
  case int.int i j =>
    replace p : Post w W L H (QV w Q) (if mulOk i j = true then .ok (.int (i * j)) S else .no) := p
    by_cases h : mulOk i j = true
    · rw [if_pos h] at p
      refine .inl ⟨i, j, rfl, rfl, ?_, p.here st _ (.int _)⟩
      unfold mulOk bigOk at h
      simp only [Bool.and_eq_true, decide_eq_true_eq] at h
      unfold CMulX
      omega
    · rw [if_neg h] at p
      exact p.elim
  case lst.int a xs ds h n r k =>
    replace p : Post w W L H (QV w Q) (if (small (ds.length * k.toNat) && Nat.ble k.natAbs 1000000) = true then .ok (.lst (List.replicate k.toNat ds).flatten) S else .no) := p
    by_cases hc : (small (ds.length * k.toNat) && Nat.ble k.natAbs 1000000) = true
    · rw [if_pos hc] at p
      simp only [Bool.and_eq_true, Nat.ble_eq] at hc
      obtain ⟨h1, h2⟩ := hc
      refine .inr (.inl ⟨a, k, xs, rfl, rfl, h, by omega, by omega, by rw [r.len]; exact small_le h1, fun q hq => ?_⟩)
      exact p.there (st.ex hq) (st.new hq) _ (.lst upd_same (st.no hq) ((r.repl _).mono (st.ex hq)))
    · rw [if_neg hc] at p
      exact p.elim
  case tup.int a xs ds h n r k =>
    replace p : Post w W L H (QV w Q) (if tmOk ds k = true then .ok (.tup (List.replicate k.toNat ds).flatten) S else .no) := p
    by_cases hc : tmOk ds k = true
    · rw [if_pos hc] at p
      unfold tmOk at hc
      simp only [Bool.and_eq_true, Nat.ble_eq, Bool.not_eq_true', decide_eq_true_eq] at hc
      obtain ⟨⟨⟨h1, h2⟩, h3⟩, h4⟩ := hc
      by_cases hk1 : k = 1
      · subst hk1
        refine .inr (.inr (.inr (.inl ⟨a, xs, rfl, rfl, .inl h, ?_⟩)))
        have e1 : (List.replicate (1 : Int).toNat ds).flatten = ds := by simp
        rw [e1] at p
        exact p.here st _ (.tup h n r)
      by_cases hk0 : k = 0
      · subst hk0
        refine .inr (.inr (.inr (.inr ⟨a, xs, rfl, rfl, .inl h, fun e => ?_, fun q hq => ?_⟩)))
        · have := r.len
          rw [e] at this
          cases ds with
          | nil => simp at h1
          | cons => simp at this
        · exact p.there (st.ex hq) (st.new hq) _ (.tup (.inl upd_same) (st.no hq) .nil)
      refine .inr (.inr (.inl ⟨a, k, xs, rfl, rfl, .inl h, fun e => ?_, by omega, by omega, by rw [r.len]; exact h4, fun q hq => ?_⟩))
      · have := r.len
        rw [e] at this
        cases ds with
        | nil => simp at h1
        | cons => simp at this
      · exact p.there (st.ex hq) (st.new hq) _ (.tup (.inl upd_same) (st.no hq) ((r.repl _).mono (st.ex hq)))
    · rw [if_neg hc] at p
      exact p.elim
theorem de_mul (ha : DE X W a sa) (hb : DE X W b sb) : DE X W (.BinOp a .Mult b pos) (eOp dMul sa sb) := de_op (op_mulX.or (op_rep.or (op_repT.or (op_rep1.or op_rep0)))) od_mul ha hb
def divOk (_ j : Int) : Bool := decide (0 < j) && Nat.ble j.natAbs 18446744073709551615
theorem divW {i j : Int} (h : divOk i j = true) : CDivW i j := by
  unfold divOk at h
  simp only [Bool.and_eq_true, decide_eq_true_eq, Nat.ble_eq] at h
  exact wide_div (b := 64) h.1 (by omega) (by decide) (by decide)
abbrev dFdiv : D → D → Store → Res D := dInt divOk fun i j => .int (i / j)
theorem de_fdiv (ha : DE X W a sa) (hb : DE X W b sb) : DE X W (.BinOp a .FloorDiv b pos) (eOp dFdiv sa sb) := de_op op_fdivW (od_int (fun _ _ h => divW h) fun _ _ _ _ _ => .int _) ha hb
def posOk (_ j : Int) : Bool := decide (0 < j)
abbrev dMod : D → D → Store → Res D := dInt posOk fun i j => .int (i % j)
theorem de_mod (ha : DE X W a sa) (hb : DE X W b sb) : DE X W (.BinOp a .Mod b pos) (eOp dMod sa sb) := de_op op_mod (od_int (fun _ _ h => of_decide_eq_true h) fun _ _ _ _ _ => .int _) ha hb
def powOk (i j : Int) : Bool := decide (0 ≤ j) && Nat.ble j.natAbs 1000000 && Nat.ble i.natAbs 18446744073709551615
theorem powC {i j : Int} (h : powOk i j = true) : CPow i j := by
  unfold powOk at h
  simp only [Bool.and_eq_true, decide_eq_true_eq, Nat.ble_eq] at h
  exact ⟨h.1.1, by omega, by omega⟩
abbrev dPow : D → D → Store → Res D := dInt powOk fun i j => .int (i ^ j.toNat)
theorem de_pow (ha : DE X W a sa) (hb : DE X W b sb) : DE X W (.BinOp a .Pow b pos) (eOp dPow sa sb) := de_op op_pow (od_int (fun _ _ h => powC h) fun _ _ _ _ _ => .int _) ha hb
abbrev dShl : D → D → Store → Res D := dInt powOk fun i j => .int (i * 2 ^ j.toNat)
theorem de_shl (ha : DE X W a sa) (hb : DE X W b sb) : DE X W (.BinOp a .LShift b pos) (eOp dShl sa sb) := de_op op_shl (od_int (fun _ _ h => powC h) fun _ _ _ _ _ => .int _) ha hb
def nnOk (_ j : Int) : Bool := decide (0 ≤ j)
abbrev dShr : D → D → Store → Res D := dInt nnOk fun i j => .int (i / 2 ^ j.toNat)
theorem de_shr (ha : DE X W a sa) (hb : DE X W b sb) : DE X W (.BinOp a .RShift b pos) (eOp dShr sa sb) := de_op op_shr (od_int (fun _ _ h => of_decide_eq_true h) fun _ _ _ _ _ => .int _) ha hb
abbrev dBand : D → D → Store → Res D := dInt0 fun i j => .int (Builtin.bitAnd i j)
theorem de_band (ha : DE X W a sa) (hb : DE X W b sb) : DE X W (.BinOp a .BitAnd b pos) (eOp dBand sa sb) := de_op op_and (od_int0 fun _ _ _ _ _ => .int _) ha hb
abbrev dXor : D → D → Store → Res D := dInt0 fun i j => .int (Builtin.bitXor i j)
theorem de_xor (ha : DE X W a sa) (hb : DE X W b sb) : DE X W (.BinOp a .BitXor b pos) (eOp dXor sa sb) := de_op op_xor (od_int0 fun _ _ _ _ _ => .int _) ha hb
def eNeg (a : SE) : SE := fun ρ S => (a ρ S).bind fun d S1 => (asI d S1).bind fun i S2 => .ok (.int (-i)) S2
theorem de_neg (ha : DE X W a sa) : DE X W (.UnaryOp .USub a pos) (eNeg sa) := by
  obtain ⟨t, p, r⟩ := ha
  refine ⟨_, pe_un un_neg p, fun ρ σ L H S Q er st p => r ρ σ L H S _ er st (p.step fun d S1 L1 H1 e1 s1 p1 v rv => ?_)⟩
  obtain ⟨i, e, q⟩ := asI_int p1.bind s1 rv
  exact ⟨i, e, q.here s1 _ (.int _)⟩
/-! ### < <= > >= -/
/-- whole numbers out of data -/
def intsOf : List D → Option (List Int)
  | [] => some []
  | .int i :: r => (intsOf r).map (i :: ·)
  | _ => none
theorem intsOf_rep {L : Ly} {H : Hp} : ∀ {ds : List D} {ns : List Int} {vs : List V}, intsOf ds = some ns → RepL w L H vs ds → vs = ns.map V.int
  | [], ns, vs, e, r => by
    cases e
    cases r
    rfl
  | d :: ds, ns, vs, e, r => by
    cases r with
    | cons h t =>
      cases h with
      | int i =>
        unfold intsOf at e
        obtain ⟨ms, e1, rfl⟩ := Option.map_eq_some_iff.mp e
        rw [intsOf_rep e1 t]
        rfl
      | _ => exact (nomatch e)
@[simp] theorem intsOf_nil : intsOf [] = some [] := rfl
@[simp] theorem intsOf_cons (i : Int) (r : List D) : intsOf (.int i :: r) = (intsOf r).map (i :: ·) := rfl
@[simp] theorem intsOf_map (ns : List Int) : intsOf (ns.map D.int) = some ns := by
  induction ns with
  | nil => rfl
  | cons n r ih => rw [List.map_cons, intsOf_cons, ih]; rfl
def dLt : D → D → Store → Res D
  | .int i, .int j, S => .ok (.bl (decide (i < j))) S
  | .tup xs, .tup ys, S => match intsOf xs, intsOf ys with
    | some ns, some ms => .ok (.bl (HT.lexLt ns ms)) S
    | _, _ => .no
  | _, _, _ => .no
theorem od_lt : OpD w (fun x y H Q => rI0 (fun i j => .bl (decide (i < j))) x y H Q ∨ rLtT w.K x y H Q) dLt := by
  intro W L H S x y a b Q st rx ry p
  cases rx <;> cases ry <;> first | exact (show False from p).elim | skip
  case int.int i j => exact .inl ⟨i, j, rfl, rfl, p.here st _ (.bl _)⟩
  case tup.tup a xs ds h n r b ys es h' n' r' =>
    replace p : Post w W L H (QV w Q) (match intsOf ds, intsOf es with
      | some ns, some ms => .ok (.bl (HT.lexLt ns ms)) S
      | _, _ => .no) := p
    cases e1 : intsOf ds with
    | none => rw [e1] at p; exact (show False from p).elim
    | some ns =>
      cases e2 : intsOf es with
      | none => rw [e1, e2] at p; exact (show False from p).elim
      | some ms =>
        rw [e1, e2] at p
        have q1 := intsOf_rep e1 r
        have q2 := intsOf_rep e2 r'
        subst q1 q2
        exact .inr ⟨a, b, ns, ms, rfl, rfl, .inl h, .inl h', p.here st _ (.bl _)⟩
theorem de_lt (hu : X.A.units < cLine) (ha : DE X W a sa) (hb : DE X W b sb) : DE X W (.Compare a [.Lt] [b] pos) (eOp dLt sa sb) := de_cmp (op_lt.or (op_ltT hu)) od_lt ha hb (nomark _)
theorem dt_lt (hu : X.A.units < cLine) (ha : DE X W a sa) (hb : DE X W b sb) : DT X W (.Compare a [.Lt] [b] pos) (tOfE (eOp dLt sa sb)) := dt_cmp (op_lt.or (op_ltT hu)) od_lt ha hb (nomark _)
abbrev dLe : D → D → Store → Res D := dInt0 fun i j => .bl (decide (i ≤ j))
abbrev dGt : D → D → Store → Res D := dInt0 fun i j => .bl (decide (j < i))
abbrev dGe : D → D → Store → Res D := dInt0 fun i j => .bl (decide (j ≤ i))
theorem od_le : OpD w (rI0 fun i j => .bl (decide (i ≤ j))) dLe := od_int0 fun _ _ _ _ _ => .bl _
theorem od_gt : OpD w (rI0 fun i j => .bl (decide (j < i))) dGt := od_int0 fun _ _ _ _ _ => .bl _
theorem od_ge : OpD w (rI0 fun i j => .bl (decide (j ≤ i))) dGe := od_int0 fun _ _ _ _ _ => .bl _
theorem de_le (ha : DE X W a sa) (hb : DE X W b sb) : DE X W (.Compare a [.LtE] [b] pos) (eOp dLe sa sb) := de_cmp op_le od_le ha hb (nomark _)
theorem dt_le (ha : DE X W a sa) (hb : DE X W b sb) : DT X W (.Compare a [.LtE] [b] pos) (tOfE (eOp dLe sa sb)) := dt_cmp op_le od_le ha hb (nomark _)
theorem de_gt (ha : DE X W a sa) (hb : DE X W b sb) : DE X W (.Compare a [.Gt] [b] pos) (eOp dGt sa sb) := de_cmp op_gt od_gt ha hb (nomark _)
theorem dt_gt (ha : DE X W a sa) (hb : DE X W b sb) : DT X W (.Compare a [.Gt] [b] pos) (tOfE (eOp dGt sa sb)) := dt_cmp op_gt od_gt ha hb (nomark _)
theorem de_ge (ha : DE X W a sa) (hb : DE X W b sb) : DE X W (.Compare a [.GtE] [b] pos) (eOp dGe sa sb) := de_cmp op_ge od_ge ha hb (nomark _)
theorem dt_ge (ha : DE X W a sa) (hb : DE X W b sb) : DT X W (.Compare a [.GtE] [b] pos) (tOfE (eOp dGe sa sb)) := dt_cmp op_ge od_ge ha hb (nomark _)
/-! ### == != -/
mutual
def pd : D → Option PyData
  | .non => some .none
  | .bl b => some (.bool b)
  | .int i => some (.int i)
  | .str x => some (.str x)
  | .tup xs => (pdL xs).map .tuple
  | .lst xs => (pdL xs).map .list
  | _ => none
def pdL : List D → Option (List PyData)
  | [] => some []
  | d :: r => match pd d, pdL r with
    | some x, some xs => some (x :: xs)
    | _, _ => none
end
mutual
theorem pd_dp {L : Ly} {H : Hp} : ∀ {d : D} {v : V} {x : PyData}, Rep w L H v d → pd d = some x → Dp w.K H v x
  | _, _, _, .non, e => by cases e; exact .non
  | _, _, _, .bl b, e => by cases e; exact .bl b
  | _, _, _, .int i, e => by cases e; exact .int i
  | _, _, _, .str z, e => by cases e; exact .str z
  | _, _, _, .tup h n r, e => by
    obtain ⟨xs, e1, rfl⟩ := Option.map_eq_some_iff.mp e
    exact .tup (.inl h) (pdL_dp r e1)
  | _, _, _, .lst h n r, e => by
    obtain ⟨xs, e1, rfl⟩ := Option.map_eq_some_iff.mp e
    exact .lst (.of h) (pdL_dp r e1)
  | _, _, _, .scr _, e => nomatch e
  | _, _, _, .ref _ _, e => nomatch e
  | _, _, _, .dref _ _, e => nomatch e
  | _, _, _, .stup _ _ _ _, e => nomatch e
  | _, _, _, .opq _, e => nomatch e
  | _, _, _, .xtup _ _ _, e => nomatch e
  | _, _, _, .iref _ _, e => nomatch e
  | _, _, _, .gl _, e => nomatch e
  | _, _, _, .emp _ _, e => nomatch e
  | _, _, _, .ty _, e => nomatch e
  | _, _, _, .err0 _ _, e => nomatch e
  | _, _, _, .err2 _ _ _ _ _ _, e => nomatch e
theorem pdL_dp {L : Ly} {H : Hp} : ∀ {ds : List D} {vs : List V} {xs : List PyData}, RepL w L H vs ds → pdL ds = some xs → DpAll w.K H vs xs
  | _, _, _, .nil, e => by cases e; exact .nil
  | d :: ds, _, _, .cons h t, e => by
    unfold pdL at e
    cases e1 : pd d with
    | none => rw [e1] at e; cases e
    | some x =>
      cases e2 : pdL ds with
      | none => rw [e1, e2] at e; cases e
      | some ys =>
        rw [e1, e2] at e
        cases e
        exact .cons (pd_dp h e1) (pdL_dp t e2)
end
/-- .. a cell by what it holds -/
def pdS (S : Store) : D → Option PyData
  | .ref n => match S[n]? with
    | some (.lst xs) => (pdL xs).map .list
    | _ => none
  | d => pd d
theorem pdS_dp {L : Ly} {H : Hp} {S : Store} {d : D} {v : V} {x : PyData} (s : Sto w L H S) (r : Rep w L H v d) (e : pdS S d = some x) : Dp w.K H v x := by
  cases r with
  | @ref a n h =>
    replace e : (match S[n]? with
      | some (.lst xs) => (pdL xs).map PyData.list
      | _ => none) = some x := e
    cases e1 : S[n]? with
    | none => rw [e1] at e; cases e
    | some o =>
      rw [e1] at e
      cases o with
      | lst xs =>
        obtain ⟨ys, e2, rfl⟩ := Option.map_eq_some_iff.mp e
        obtain ⟨vs, hv, q⟩ := s.ob n _ a e1 h
        exact .lst (.of hv) (pdL_dp q e2)
      | _ => cases e
  | dref _ _ => exact nomatch e
  | stup _ _ _ _ => exact nomatch e
  | opq _ => exact nomatch e
  | xtup _ _ _ => exact nomatch e
  | iref _ _ => exact nomatch e
  | non => exact pd_dp (L := L) .non e
  | bl b => exact pd_dp (L := L) (.bl b) e
  | int i => exact pd_dp (L := L) (.int i) e
  | str z => exact pd_dp (L := L) (.str z) e
  | tup h n r => exact pd_dp (.tup h n r) e
  | lst h n r => exact pd_dp (.lst h n r) e
  | scr h => exact nomatch e
  | gl h => exact nomatch e
  | emp h n => exact nomatch e
  | ty n => exact nomatch e
  | err0 _ _ => exact nomatch e
  | err2 _ _ _ _ _ _ => exact nomatch e
def eqD (neg : Bool) (a b : D) (S : Store) : Res D := match pdS S a, pdS S b with
  | some x, some y => if (SeqAt.shaped x && SeqAt.shaped y) = true then .ok (.bl (if neg = true then !PyData.eqv x y else PyData.eqv x y)) S else .no
  | _, _ => .no
abbrev dEq : D → D → Store → Res D := eqD false
abbrev dNe : D → D → Store → Res D := eqD true
theorem eqD_ok {neg : Bool} {L : Ly} {H : Hp} {S : Store} {a b : D} {x y : V} {Q : VK} (p : Post w W L H (QV w Q) (eqD neg a b S)) (st : Sto w L H S) (rx : Rep w L H x a) (ry : Rep w L H y b) :
    ∃ d e, Dp w.K H x d ∧ Dp w.K H y e ∧ SeqAt.shaped d = true ∧ SeqAt.shaped e = true ∧ Q (.bl (if neg = true then !PyData.eqv d e else PyData.eqv d e)) H := by
  unfold eqD at p
  cases e1 : pdS S a with
  | none => rw [e1] at p; exact (show False from p).elim
  | some d =>
    cases e2 : pdS S b with
    | none => rw [e1, e2] at p; exact (show False from p).elim
    | some e =>
      rw [e1, e2] at p
      by_cases h : (SeqAt.shaped d && SeqAt.shaped e) = true
      · simp only [if_pos h] at p
        have h' := Bool.and_eq_true_iff.mp h
        exact ⟨d, e, pdS_dp st rx e1, pdS_dp st ry e2, h'.1, h'.2, p.here st _ (.bl _)⟩
      · simp only [if_neg h] at p
        exact p.elim
theorem od_eq : OpD w (rEqD w.K) dEq := fun W L H S x y a b Q st rx ry p => eqD_ok p st rx ry
theorem od_ne : OpD w (rNeD w.K) dNe := fun W L H S x y a b Q st rx ry p => eqD_ok p st rx ry
theorem de_eq (hu : X.A.units + 64 < cLine) (ha : DE X W a sa) (hb : DE X W b sb) : DE X W (.Compare a [.Eq] [b] pos) (eOp dEq sa sb) := de_cmp (op_eqD hu) od_eq ha hb (nomark _)
theorem dt_eq (hu : X.A.units + 64 < cLine) (ha : DE X W a sa) (hb : DE X W b sb) : DT X W (.Compare a [.Eq] [b] pos) (tOfE (eOp dEq sa sb)) := dt_cmp (op_eqD hu) od_eq ha hb (nomark _)
theorem de_ne (hu : X.A.units + 64 < cLine) (ha : DE X W a sa) (hb : DE X W b sb) : DE X W (.Compare a [.NotEq] [b] pos) (eOp dNe sa sb) := de_cmp (op_neD hu) od_ne ha hb (nomark _)
theorem dt_ne (hu : X.A.units + 64 < cLine) (ha : DE X W a sa) (hb : DE X W b sb) : DT X W (.Compare a [.NotEq] [b] pos) (tOfE (eOp dNe sa sb)) := dt_cmp (op_neD hu) od_ne ha hb (nomark _)
/-! ### is, is not: None, truths -/
def isD (neg : Bool) : D → D → Store → Res D
  | .bl x, .bl y, S => .ok (.bl (if neg = true then !decide (x = y) else decide (x = y))) S
  | .non, .non, S => .ok (.bl (!neg)) S
  | .int _, .non, S | .bl _, .non, S | .str _, .non, S | .tup _, .non, S | .lst _, .non, S | .ref _, .non, S | .emp, .non, S => .ok (.bl neg) S
  | _, _, _ => .no
theorem isD_ok {neg : Bool} {L : Ly} {H : Hp} {S : Store} {a b : D} {x y : V} {Q : VK} (p : Post w W L H (QV w Q) (isD neg a b S)) (st : Sto w L H S) (rx : Rep w L H x a) (ry : Rep w L H y b) :
    (∃ k l, x = .bl k ∧ y = .bl l ∧ Q (.bl (if neg = true then !decide (k = l) else decide (k = l))) H) ∨ (y = .non ∧ Q (.bl (if neg = true then !decide (x = .non) else decide (x = .non))) H) := by
  cases rx <;> cases ry <;> first | exact (show False from p).elim | skip
  case bl.bl k l => exact .inl ⟨k, l, rfl, rfl, p.here st _ (.bl _)⟩
  case non.non =>
    refine .inr ⟨rfl, ?_⟩
    have := (show Post w W L H (QV w Q) (.ok (.bl (!neg)) S) from p).here st _ (.bl _)
    cases neg <;> exact this
  all_goals
    refine .inr ⟨rfl, ?_⟩
    have := (show Post w W L H (QV w Q) (.ok (.bl neg) S) from p).here st _ (.bl _)
    cases neg <;> exact this
abbrev dIs : D → D → Store → Res D := isD false
abbrev dIsN : D → D → Store → Res D := isD true
theorem od_is : OpD w (fun x y H Q => (∃ k l, x = .bl k ∧ y = .bl l ∧ Q (.bl (decide (k = l))) H) ∨ (y = .non ∧ Q (.bl (decide (x = .non))) H)) dIs := fun W L H S x y a b Q st rx ry p => isD_ok p st rx ry
theorem od_isn : OpD w (fun x y H Q => (∃ k l, x = .bl k ∧ y = .bl l ∧ Q (.bl (!decide (k = l))) H) ∨ (y = .non ∧ Q (.bl (!decide (x = .non))) H)) dIsN := fun W L H S x y a b Q st rx ry p => isD_ok p st rx ry
theorem de_is (ha : DE X W a sa) (hb : DE X W b sb) : DE X W (.Compare a [.Is] [b] pos) (eOp dIs sa sb) := de_cmp (op_is_bl.or op_isN) od_is ha hb (nomark _)
theorem dt_is (ha : DE X W a sa) (hb : DE X W b sb) : DT X W (.Compare a [.Is] [b] pos) (tOfE (eOp dIs sa sb)) := dt_cmp (op_is_bl.or op_isN) od_is ha hb (nomark _)
theorem de_isn (ha : DE X W a sa) (hb : DE X W b sb) : DE X W (.Compare a [.IsNot] [b] pos) (eOp dIsN sa sb) := de_cmp (op_isnot_bl.or op_notN) od_isn ha hb (nomark _)
theorem dt_isn (ha : DE X W a sa) (hb : DE X W b sb) : DT X W (.Compare a [.IsNot] [b] pos) (tOfE (eOp dIsN sa sb)) := dt_cmp (op_isnot_bl.or op_notN) od_isn ha hb (nomark _)
end
end Ls
/-! LsD: built-in calls, subscripts, slices, membership, list methods as functions of data. -/
namespace Ls
open PySem PySem.Spec PyProof.Rows L2
section
variable {X : Cx} {W : XW} {w : Wd} {L : Ly} {H : Hp} {S : Store}
theorem rep1 {vs : List V} {d : D} (r : RepL w L H vs [d]) : ∃ v, vs = [v] ∧ Rep w L H v d := by
  cases r with
  | cons h t => cases t; exact ⟨_, rfl, h⟩
theorem rep2 {vs : List V} {d e : D} (r : RepL w L H vs [d, e]) : ∃ v u, vs = [v, u] ∧ Rep w L H v d ∧ Rep w L H u e := by
  cases r with
  | cons h t =>
    cases t with
    | cons h' t' => cases t'; exact ⟨_, _, rfl, h, h'⟩
/-- what a cell holds -/
def cell (S : Store) (n : Nat) : Option (List D) := match S[n]? with
  | some (.lst xs) => some xs
  | _ => none
theorem cell_ok {n : Nat} {xs : List D} {a : Addr} (e : cell S n = some xs) (s : Sto w L H S) (h : L.c[n]? = some a) : ∃ vs, H a = some (.lst vs) ∧ RepL w L H vs xs := by
  unfold cell at e
  cases e1 : S[n]? with
  | none => rw [e1] at e; cases e
  | some o =>
    rw [e1] at e
    cases o with
    | lst ys =>
      cases e
      exact s.ob n _ a e1 h
    | _ => cases e
/-- the items of a list or tuple -/
def items (S : Store) : D → Option (List D)
  | .tup xs => some xs
  | .lst xs => some xs
  | .scr ns => some (ns.map D.int)
  | .ref n => cell S n
  | _ => none
theorem repL_ints (ns : List Int) : RepL w L H (ns.map V.int) (ns.map D.int) := by
  induction ns with
  | nil => exact .nil
  | cons n r ih => exact .cons (.int n) ih
theorem items_ok {d : D} {xs : List D} {v : V} (e : items S d = some xs) (s : Sto w L H S) (r : Rep w L H v d) : ∃ a vs, v = .ref a ∧ RepL w L H vs xs ∧ (SqL w.K H a vs ∨ SqT w.K H a vs) := by
  cases r with
  | @tup a vs ds h n r => cases e; exact ⟨a, vs, rfl, r, .inr (.inl h)⟩
  | @lst a vs ds h n r => cases e; exact ⟨a, vs, rfl, r, .inl (.of h)⟩
  | @scr a ns h => cases e; exact ⟨a, _, rfl, repL_ints ns, .inl h.sq⟩
  | @ref a n h =>
    obtain ⟨vs, hv, q⟩ := cell_ok e s h
    exact ⟨a, vs, rfl, q, .inl (.of hv)⟩
  | _ => exact nomatch e
/-! ### len -/
def dLen : List D → Store → Res D
  | [.str x], S => if small x.length = true then .ok (.int x.length) S else .no
  | [d], S => match items S d with
    | some xs => .ok (.int xs.length) S
    | none => .no
  | _, _ => .no
theorem cd_len : CallD w (fun xs H Q => ∃ x n, xs = [x] ∧ LenV w.K x H n ∧ Q (.int n) H) dLen := by
  intro W L H S vs ds Q st r p
  have gen : ∀ {d : D} {v : V}, Rep w L H v d → Post w W L H (QV w Q) (match items S d with
    | some xs => .ok (.int xs.length) S
    | none => .no) → ∃ x n, [v] = [x] ∧ LenV w.K x H n ∧ Q (.int n) H := fun {d v} rv p => by
    cases e : items S d with
    | none => rw [e] at p; exact (show False from p).elim
    | some xs =>
      rw [e] at p
      obtain ⟨a, us, rfl, ru, q⟩ := items_ok e st rv
      refine ⟨.ref a, xs.length, rfl, ?_, p.here st _ (.int _)⟩
      rcases q with q | q
      · exact .inl ⟨us, q, ru.len.symm⟩
      · exact .inr ⟨us, q, ru.len.symm⟩
  match ds, p with
  | [.str x], p =>
    obtain ⟨v, rfl, rv⟩ := rep1 r
    cases rv
    replace p : Post w W L H (QV w Q) (if small x.length = true then .ok (.int x.length) S else .no) := p
    by_cases h : small x.length = true
    · rw [if_pos h] at p
      exact ⟨.str x, x.length, rfl, ⟨small_le h, rfl⟩, p.here st _ (.int _)⟩
    · rw [if_neg h] at p
      exact p.elim
  | [.tup x], p => obtain ⟨v, rfl, rv⟩ := rep1 r; exact gen rv p
  | [.lst x], p => obtain ⟨v, rfl, rv⟩ := rep1 r; exact gen rv p
  | [.scr x], p => obtain ⟨v, rfl, rv⟩ := rep1 r; exact gen rv p
  | [.ref x], p => obtain ⟨v, rfl, rv⟩ := rep1 r; exact gen rv p
  | [.non], p => exact (show False from p).elim
  | [.bl _], p => exact (show False from p).elim
  | [.int _], p => exact (show False from p).elim
  | [.gl _], p => exact (show False from p).elim
  | [.emp], p => exact (show False from p).elim
  | [.ty _], p => exact (show False from p).elim
  | [], p => exact (show False from p).elim
  | d :: _ :: _, p => exact (show False from by cases d <;> exact p).elim
variable {a b e : Expr} {es : List Expr} {sa sb : SE} {fa : SA} {p pos : Pos}
theorem de_len (hm : X.mg "len" = none) (ha : DA X W (e :: es) fa) (hg : Gl X "len" := by rfl) (he : starEach (e :: es) X.env = (false, eval e X.env) :: starEach es X.env := by rfl) (hpl : (backTo pos (starEach es X.env)).any (·.1) = false := by rfl) :
    DE X W (.Call (.Name "len" p) (e :: es) [] pos) (eCB dLen fa) := de_callB call_len cd_len hm boot_len ha hg (by decide) (by decide) he hpl
/-! ### sum, all -/
theorem cr_sumT (hc : X.calm = true) : CallR X (.builtin "sum") (fun vs H Q => ∃ (a : Addr) (ns : List Int), vs = [V.ref a] ∧ SqT X.K H a (ns.map V.int) ∧ Q (.int ns.sum) H) := by
  intro pins s σ H vs us Q I r h
  obtain ⟨a, ns, rfl, hs, q⟩ := h
  obtain ⟨its, rv, ht, _⟩ := I.tuple hs
  have hi := intsAre_of rv
  rw [Vals.ref1 r]
  obtain ⟨xs, e⟩ := hi.allInts.items
  have hn : numsOf (intItems xs).toList = ns := by rw [← e]; exact hi.numsOf
  rw [nums_intItems] at hn
  rw [e] at ht
  refine PySem.W.ktm_sumG (I.ok.hd hc) ht fun h' tk t' hk => ?_
  rw [preSum_eq, List.take_of_length_le (by simp), hn]
  exact ⟨.int _, H, I.kept hk, ⟨_, rfl⟩, q⟩
def dSum : List D → Store → Res D
  | [.lst ds], S | [.tup ds], S => match intsOf ds with
    | some ns => .ok (.int ns.sum) S
    | none => .no
  | _, _ => .no
theorem cd_sum : CallD w (fun xs H Q => rSum w.K xs H Q ∨ ∃ (a : Addr) (ns : List Int), xs = [V.ref a] ∧ SqT w.K H a (ns.map V.int) ∧ Q (.int ns.sum) H) dSum := by
  intro W L H S vs ds Q st r p
  match ds, p with
  | [.lst ds], p =>
    obtain ⟨v, rfl, rv⟩ := rep1 r
    replace p : Post w W L H (QV w Q) (match intsOf ds with
      | some ns => .ok (.int ns.sum) S
      | none => .no) := p
    cases e : intsOf ds with
    | none => rw [e] at p; exact (show False from p).elim
    | some ns =>
      rw [e] at p
      cases rv with
      | lst h n r =>
        have q := intsOf_rep e r
        subst q
        exact .inl ⟨_, ns, rfl, .of h, p.here st _ (.int _)⟩
  | [.tup ds], p =>
    obtain ⟨v, rfl, rv⟩ := rep1 r
    replace p : Post w W L H (QV w Q) (match intsOf ds with
      | some ns => .ok (.int ns.sum) S
      | none => .no) := p
    cases e : intsOf ds with
    | none => rw [e] at p; exact (show False from p).elim
    | some ns =>
      rw [e] at p
      cases rv with
      | tup h n r =>
        have q := intsOf_rep e r
        subst q
        exact .inr ⟨_, ns, rfl, .inl h, p.here st _ (.int _)⟩
  | [.non], p | [.bl _], p | [.int _], p | [.str _], p | [.scr _], p | [.ref _], p | [.gl _], p | [.ty _], p | [], p => exact (show False from p).elim
  | d :: _ :: _, p => exact (show False from by cases d <;> exact p).elim
theorem de_sum (hm : X.mg "sum" = none) (ha : DA X W (e :: es) fa) (hc : X.calm = true := by rfl) (hg : Gl X "sum" := by rfl) (he : starEach (e :: es) X.env = (false, eval e X.env) :: starEach es X.env := by rfl) (hpl : (backTo pos (starEach es X.env)).any (·.1) = false := by rfl) :
    DE X W (.Call (.Name "sum" p) (e :: es) [] pos) (eCB dSum fa) := de_callB ((cr_sum hc).or (cr_sumT hc)) cd_sum hm (by decide +kernel) ha hg (by decide) (by decide) he hpl
def boolsOf : List D → Option (List Bool)
  | [] => some []
  | .bl b :: r => (boolsOf r).map (b :: ·)
  | _ => none
theorem boolsOf_rep : ∀ {ds : List D} {ns : List Bool} {vs : List V}, boolsOf ds = some ns → RepL w L H vs ds → vs = ns.map V.bl
  | [], ns, vs, e, r => by
    cases e
    cases r
    rfl
  | d :: ds, ns, vs, e, r => by
    cases r with
    | cons h t =>
      cases h with
      | bl i =>
        unfold boolsOf at e
        obtain ⟨ms, e1, rfl⟩ := Option.map_eq_some_iff.mp e
        rw [boolsOf_rep e1 t]
        rfl
      | _ => exact (nomatch e)
@[simp] theorem boolsOf_nil : boolsOf [] = some [] := rfl
@[simp] theorem boolsOf_cons (i : Bool) (r : List D) : boolsOf (.bl i :: r) = (boolsOf r).map (i :: ·) := rfl
@[simp] theorem boolsOf_map (ns : List Bool) : boolsOf (ns.map D.bl) = some ns := by
  induction ns with
  | nil => rfl
  | cons n r ih => rw [List.map_cons, boolsOf_cons, ih]; rfl
def dAll : List D → Store → Res D
  | [.lst ds], S => match boolsOf ds with
    | some ns => .ok (.bl (ns.all id)) S
    | none => .no
  | _, _ => .no
theorem cd_all : CallD w (rAll w.K) dAll := by
  intro W L H S vs ds Q st r p
  match ds, p with
  | [.lst ds], p =>
    obtain ⟨v, rfl, rv⟩ := rep1 r
    replace p : Post w W L H (QV w Q) (match boolsOf ds with
      | some ns => .ok (.bl (ns.all id)) S
      | none => .no) := p
    cases e : boolsOf ds with
    | none => rw [e] at p; exact (show False from p).elim
    | some ns =>
      rw [e] at p
      cases rv with
      | lst h n r =>
        have q := boolsOf_rep e r
        subst q
        exact ⟨_, ns, rfl, .of h, p.here st _ (.bl _)⟩
  | [.tup _], p | [.non], p | [.bl _], p | [.int _], p | [.str _], p | [.scr _], p | [.ref _], p | [.gl _], p | [.ty _], p | [], p => exact (show False from p).elim
  | d :: _ :: _, p => exact (show False from by cases d <;> exact p).elim
theorem de_all (hm : X.mg "all" = none) (ha : DA X W (e :: es) fa) (hc : X.calm = true := by rfl) (hg : Gl X "all" := by rfl) (he : starEach (e :: es) X.env = (false, eval e X.env) :: starEach es X.env := by rfl) (hpl : (backTo pos (starEach es X.env)).any (·.1) = false := by rfl) :
    DE X W (.Call (.Name "all" p) (e :: es) [] pos) (eCB dAll fa) := de_callB (cr_all hc) cd_all hm (by decide +kernel) ha hg (by decide) (by decide) he hpl
/-! ### tuple(..), list(..) -/
def dTuple : List D → Store → Res D
  | [.tup ds], S => .ok (.tup ds) S
  | [d], S => match items S d with
    | some xs => mkTup xs S
    | none => .no
  | _, _ => .no
theorem cd_tuple : CallD w (fun xs H Q => ∃ p ys, xs = [.ref p] ∧ ((SqL w.K H p ys ∧ ∀ l, H l = none → Q (.ref l) (upd H l (.tup ys))) ∨ (SqT w.K H p ys ∧ Q (.ref p) H))) dTuple := by
  intro W L H S vs ds Q st r p
  match ds, p with
  | [.tup ds], p =>
    obtain ⟨v, rfl, rv⟩ := rep1 r
    cases rv with
    | tup h n r => exact ⟨_, _, rfl, .inr ⟨.inl h, p.here st _ (.tup h n r)⟩⟩
  | [.lst ds], p =>
    obtain ⟨v, rfl, rv⟩ := rep1 r
    cases rv with
    | lst h n r => exact ⟨_, _, rfl, .inl ⟨.of h, (mkTup_ok p st r).2⟩⟩
  | [.scr ns], p =>
    obtain ⟨v, rfl, rv⟩ := rep1 r
    cases rv with
    | scr h => exact ⟨_, _, rfl, .inl ⟨h.sq, (mkTup_ok p st (repL_ints ns)).2⟩⟩
  | [.ref n], p =>
    obtain ⟨v, rfl, rv⟩ := rep1 r
    cases rv with
    | ref h =>
      replace p : Post w W L H (QV w Q) (match cell S n with
        | some xs => mkTup xs S
        | none => .no) := p
      cases e : cell S n with
      | none => rw [e] at p; exact (show False from p).elim
      | some xs =>
        rw [e] at p
        obtain ⟨vs, hv, q⟩ := cell_ok e st h
        exact ⟨_, _, rfl, .inl ⟨.of hv, (mkTup_ok p st q).2⟩⟩
  | [.non], p | [.bl _], p | [.int _], p | [.str _], p | [.gl _], p | [.ty _], p | [], p => exact (show False from p).elim
  | d :: _ :: _, p => exact (show False from by cases d <;> exact p).elim
theorem de_tuple (hm : X.mg "tuple" = none) (ha : DA X W (e :: es) fa) (hg : Gl X "tuple" := by rfl) (he : starEach (e :: es) X.env = (false, eval e X.env) :: starEach es X.env := by rfl) (hpl : (backTo pos (starEach es X.env)).any (·.1) = false := by rfl) :
    DE X W (.Call (.Name "tuple" p) (e :: es) [] pos) (eCB dTuple fa) := de_callTy call_tuple_of cd_tuple hm (by decide +kernel) ha hg (by decide) (by decide) he hpl
def dList : List D → Store → Res D
  | [d], S => match items S d with
    | some xs => mkLst xs S
    | none => .no
  | _, _ => .no
theorem cd_list : CallD w (fun xs H Q => ∃ p ys, xs = [.ref p] ∧ (SqL w.K H p ys ∨ SqT w.K H p ys) ∧ ∀ l, H l = none → Q (.ref l) (upd H l (.lst ys))) dList := by
  intro W L H S vs ds Q st r p
  match ds, p with
  | [d], p =>
    obtain ⟨v, rfl, rv⟩ := rep1 r
    replace p : Post w W L H (QV w Q) (match items S d with
      | some xs => mkLst xs S
      | none => .no) := p
    cases e : items S d with
    | none => rw [e] at p; exact (show False from p).elim
    | some xs =>
      rw [e] at p
      obtain ⟨a, us, rfl, ru, q⟩ := items_ok e st rv
      exact ⟨a, us, rfl, q, (mkLst_ok p st ru).2⟩
  | [], p => exact (show False from p).elim
  | d :: _ :: _, p => exact (show False from by cases d <;> exact p).elim
theorem de_list (hm : X.mg "list" = none) (ha : DA X W (e :: es) fa) (hg : Gl X "list" := by rfl) (he : starEach (e :: es) X.env = (false, eval e X.env) :: starEach es X.env := by rfl) (hpl : (backTo pos (starEach es X.env)).any (·.1) = false := by rfl) :
    DE X W (.Call (.Name "list" p) (e :: es) [] pos) (eCB dList fa) := de_callTy call_list_of cd_list hm (by decide +kernel) ha hg (by decide) (by decide) he hpl
/-! ### int, divmod, max, min, sorted -/
def dInt1 : List D → Store → Res D
  | [.int i], S => .ok (.int i) S
  | [.bl k], S => .ok (.int (if k then 1 else 0)) S
  | _, _ => .no
theorem cd_int1 : CallD w (fun xs H Q => (∃ i, xs = [.int i] ∧ Q (.int i) H) ∨ ∃ k, xs = [.bl k] ∧ Q (.int (if k then 1 else 0)) H) dInt1 := by
  intro W L H S vs ds Q st r p
  match ds, p with
  | [.int i], p => obtain ⟨v, rfl, rv⟩ := rep1 r; cases rv; exact .inl ⟨i, rfl, p.here st _ (.int _)⟩
  | [.bl i], p => obtain ⟨v, rfl, rv⟩ := rep1 r; cases rv; exact .inr ⟨i, rfl, p.here st _ (.int _)⟩
  | [.tup _], p | [.non], p | [.lst _], p | [.str _], p | [.scr _], p | [.ref _], p | [.gl _], p | [.ty _], p | [], p => exact (show False from p).elim
  | d :: _ :: _, p => exact (show False from by cases d <;> exact p).elim
theorem de_int1 (hm : X.mg "int" = none) (ha : DA X W (e :: es) fa) (hg : Gl X "int" := by rfl) (he : starEach (e :: es) X.env = (false, eval e X.env) :: starEach es X.env := by rfl) (hpl : (backTo pos (starEach es X.env)).any (·.1) = false := by rfl) :
    DE X W (.Call (.Name "int" p) (e :: es) [] pos) (eCB dInt1 fa) := de_callTy call_int1 cd_int1 hm (by decide +kernel) ha hg (by decide) (by decide) he hpl
def dDivmod : List D → Store → Res D
  | [.int i, .int j], S => if divOk i j = true then .ok (.tup [.int (i / j), .int (i % j)]) S else .no
  | _, _ => .no
theorem divP {i j : Int} (h : divOk i j = true) : CDivP i j := ⟨(divW h).1, PyProof.noPylong_of_log2 (divW h).2⟩
theorem pair_cases {P : List D → Prop} (h0 : P []) (h1 : ∀ d, P [d]) (h2 : ∀ d e, P [d, e]) (h3 : ∀ d e f r, P (d :: e :: f :: r)) : ∀ ds, P ds
  | [] => h0
  | [d] => h1 d
  | [d, e] => h2 d e
  | d :: e :: f :: r => h3 d e f r
theorem cd_divmod : CallD w (fun xs H Q => ∃ i j, xs = [.int i, .int j] ∧ CDivP i j ∧ ∀ p, H p = none → Q (.ref p) (upd H p (.tup [.int (i / j), .int (i % j)]))) dDivmod := by
  intro W L H S vs ds Q st r p
  revert r p
  refine pair_cases (P := fun ds => RepL w L H vs ds → Post w W L H (QV w Q) (dDivmod ds S) → _) ?_ ?_ ?_ ?_ ds
  · intro r p; exact (show False from p).elim
  · intro d r p; exact (show False from by cases d <;> exact p).elim
  · intro d e r p
    obtain ⟨v, u, rfl, rv, ru⟩ := rep2 r
    cases rv <;> cases ru <;> first | exact (show False from p).elim | skip
    rename_i i j
    replace p : Post w W L H (QV w Q) (if divOk i j = true then .ok (.tup [.int (i / j), .int (i % j)]) S else .no) := p
    by_cases h : divOk i j = true
    · rw [if_pos h] at p
      refine ⟨i, j, rfl, divP h, fun q hq => ?_⟩
      exact p.there (st.ex hq) (st.new hq) _ (.tup (.inl upd_same) (st.no hq) (.cons (.int _) (.cons (.int _) .nil)))
    · rw [if_neg h] at p
      exact p.elim
  · intro d e f r r' p; exact (show False from by cases d <;> cases e <;> exact p).elim
theorem de_divmod (hm : X.mg "divmod" = none) (ha : DA X W (e :: es) fa) (hg : Gl X "divmod" := by rfl) (he : starEach (e :: es) X.env = (false, eval e X.env) :: starEach es X.env := by rfl) (hpl : (backTo pos (starEach es X.env)).any (·.1) = false := by rfl) :
    DE X W (.Call (.Name "divmod" p) (e :: es) [] pos) (eCB dDivmod fa) := de_callB call_divmodW cd_divmod hm (by decide +kernel) ha hg (by decide) (by decide) he hpl
/-- two whole numbers -/
def d2I (f : Int → Int → Int) : List D → Store → Res D
  | [.int i, .int j], S => .ok (.int (f i j)) S
  | _, _ => .no
theorem cd_2I (f : Int → Int → Int) : CallD w (fun xs H Q => ∃ i j, xs = [.int i, .int j] ∧ Q (.int (f i j)) H) (d2I f) := by
  intro W L H S vs ds Q st r p
  revert r p
  refine pair_cases (P := fun ds => RepL w L H vs ds → Post w W L H (QV w Q) (d2I f ds S) → _) ?_ ?_ ?_ ?_ ds
  · intro r p; exact (show False from p).elim
  · intro d r p; exact (show False from by cases d <;> exact p).elim
  · intro d e r p
    obtain ⟨v, u, rfl, rv, ru⟩ := rep2 r
    cases rv <;> cases ru <;> first | exact (show False from p).elim | skip
    rename_i i j
    exact ⟨i, j, rfl, (show Post w W L H (QV w Q) (.ok (.int (f i j)) S) from p).here st _ (.int _)⟩
  · intro d e f r r' p; exact (show False from by cases d <;> cases e <;> exact p).elim
abbrev dMax2 : List D → Store → Res D := d2I fun i j => if j > i then j else i
abbrev dMin2 : List D → Store → Res D := d2I fun i j => if j < i then j else i
theorem de_max2 (hm : X.mg "max" = none) (ha : DA X W (e :: es) fa) (hc : X.calm = true := by rfl) (hg : Gl X "max" := by rfl) (he : starEach (e :: es) X.env = (false, eval e X.env) :: starEach es X.env := by rfl) (hpl : (backTo pos (starEach es X.env)).any (·.1) = false := by rfl) :
    DE X W (.Call (.Name "max" p) (e :: es) [] pos) (eCB dMax2 fa) := de_callB (call_max2 hc) (cd_2I _) hm (by decide +kernel) ha hg (by decide) (by decide) he hpl
theorem de_min2 (hm : X.mg "min" = none) (ha : DA X W (e :: es) fa) (hc : X.calm = true := by rfl) (hg : Gl X "min" := by rfl) (he : starEach (e :: es) X.env = (false, eval e X.env) :: starEach es X.env := by rfl) (hpl : (backTo pos (starEach es X.env)).any (·.1) = false := by rfl) :
    DE X W (.Call (.Name "min" p) (e :: es) [] pos) (eCB dMin2 fa) := de_callB (call_min2 hc) (cd_2I _) hm (by decide +kernel) ha hg (by decide) (by decide) he hpl
def isort (ns : List Int) : List Int := ns.mergeSort fun a b => decide (a ≤ b)
theorem isort_perm (ns : List Int) : (isort ns).Perm ns := List.mergeSort_perm ns _
theorem isort_sorted (ns : List Int) : (isort ns).Pairwise (· ≤ ·) := by
  have h := List.pairwise_mergeSort (le := fun a b : Int => decide (a ≤ b)) (fun a b c h1 h2 => by simp at *; omega) (fun a b => by simp; omega) ns
  exact h.imp fun h => by simpa using h
def dSorted : List D → Store → Res D
  | [.lst ds], S => match intsOf ds with
    | some ns => if ns.length < 64 then .ok (.lst ((isort ns).map D.int)) S else .no
    | none => .no
  | _, _ => .no
theorem cd_sorted : CallD w (rSorted w.K) dSorted := by
  intro W L H S vs ds Q st r p
  match ds, p with
  | [.lst ds], p =>
    obtain ⟨v, rfl, rv⟩ := rep1 r
    replace p : Post w W L H (QV w Q) (match intsOf ds with
      | some ns => if ns.length < 64 then .ok (.lst ((isort ns).map D.int)) S else .no
      | none => .no) := p
    cases e : intsOf ds with
    | none => rw [e] at p; exact (show False from p).elim
    | some ns =>
      rw [e] at p
      by_cases hl : ns.length < 64
      · simp only [if_pos hl] at p
        cases rv with
        | lst h n r =>
          have q := intsOf_rep e r
          subst q
          refine ⟨_, ns, rfl, .of h, hl, fun ns' q h1 h2 hq => ?_⟩
          have e' : ns' = isort ns := PySem.W.ksm_same (h1.trans (isort_perm ns).symm) h2 (isort_sorted ns)
          subst e'
          exact p.there (st.ex hq) (st.new hq) _ (.lst upd_same (st.no hq) (repL_ints _))
      · simp only [if_neg hl] at p
        exact p.elim
  | [.tup _], p | [.non], p | [.bl _], p | [.int _], p | [.str _], p | [.scr _], p | [.ref _], p | [.gl _], p | [.ty _], p | [], p => exact (show False from p).elim
  | d :: _ :: _, p => exact (show False from by cases d <;> exact p).elim
theorem de_sorted (hm : X.mg "sorted" = none) (ha : DA X W (e :: es) fa) (hg : Gl X "sorted" := by rfl) (he : starEach (e :: es) X.env = (false, eval e X.env) :: starEach es X.env := by rfl) (hpl : (backTo pos (starEach es X.env)).any (·.1) = false := by rfl) :
    DE X W (.Call (.Name "sorted" p) (e :: es) [] pos) (eCB dSorted fa) := de_callB cr_sorted cd_sorted hm (by decide +kernel) ha hg (by decide) (by decide) he hpl
/-! ### isinstance -/
def tyName : D → Option String
  | .non => some "NoneType"
  | .bl _ => some "bool"
  | .int _ => some "int"
  | .str _ => some "str"
  | .tup _ => some "tuple"
  | .lst _ => some "list"
  | .ref _ => some "list"
  | .emp => some "dict"
  | _ => none
def isiT (a b : String) : Option Bool :=
  if b = "int" then some (a == "int" || a == "bool") else if b = "bool" then some (a == "bool") else if b = "tuple" then some (a == "tuple") else if b = "str" then some (a == "str") else if b = "list" then some (a == "list") else none
theorem tyName_x {d : D} {v : V} {n : String} (e : tyName d = some n) (s : Sto w L H S) (r : Rep w L H v d) : TyX w.K H v (.type n) ∧ (n = "NoneType" ∨ n = "bool" ∨ n = "int" ∨ n = "str" ∨ n = "tuple" ∨ n = "list" ∨ n = "dict") := by
  cases r with
  | non => cases e; exact ⟨.base .non, by simp⟩
  | bl b => cases e; exact ⟨.base (.bl b), by simp⟩
  | int b => cases e; exact ⟨.base (.int b), by simp⟩
  | str b => cases e; exact ⟨.base (.str b), by simp⟩
  | tup h n r =>
    cases e
    rcases h with h | ⟨o, h⟩
    · exact ⟨.base (.tup h), by simp⟩
    · exact ⟨.fTuple h, by simp⟩
  | lst h n r => cases e; exact ⟨.base (.lst h), by simp⟩
  | @ref a n h k =>
    cases e
    obtain ⟨vs, hv⟩ := k.is1
    exact ⟨.base (.lst hv), by simp⟩
  | dref h k => exact nomatch e
  | stup _ _ _ _ => exact nomatch e
  | opq _ => exact nomatch e
  | xtup _ _ _ => exact nomatch e
  | iref h k => exact nomatch e
  | scr h => exact nomatch e
  | gl h => exact nomatch e
  | emp h n => cases e; exact ⟨.base (.dK h), by simp⟩
  | ty h => exact nomatch e
  | err0 _ _ => exact nomatch e
  | err2 _ _ _ _ _ _ => exact nomatch e
theorem isiT_kit {a b : String} {r : Bool} (ha : a = "NoneType" ∨ a = "bool" ∨ a = "int" ∨ a = "str" ∨ a = "tuple" ∨ a = "list" ∨ a = "dict") (h : isiT a b = some r) : kitB a b = some r := by
  unfold isiT at h
  by_cases h1 : b = "int"
  · subst h1
    simp only [if_true] at h
    cases h
    rcases ha with rfl | rfl | rfl | rfl | rfl | rfl | rfl <;> decide +kernel
  rw [if_neg h1] at h
  by_cases h1 : b = "bool"
  · subst h1
    simp only [if_true] at h
    cases h
    rcases ha with rfl | rfl | rfl | rfl | rfl | rfl | rfl <;> decide +kernel
  rw [if_neg h1] at h
  by_cases h1 : b = "tuple"
  · subst h1
    simp only [if_true] at h
    cases h
    rcases ha with rfl | rfl | rfl | rfl | rfl | rfl | rfl <;> decide +kernel
  rw [if_neg h1] at h
  by_cases h1 : b = "str"
  · subst h1
    simp only [if_true] at h
    cases h
    rcases ha with rfl | rfl | rfl | rfl | rfl | rfl | rfl <;> decide +kernel
  rw [if_neg h1] at h
  by_cases h1 : b = "list"
  · subst h1
    simp only [if_true] at h
    cases h
    rcases ha with rfl | rfl | rfl | rfl | rfl | rfl | rfl <;> decide +kernel
  rw [if_neg h1] at h
  cases h
def dIsi : List D → Store → Res D
  | [d, .ty t], S => match tyName d with
    | some n => match isiT n t with
      | some b => .ok (.bl b) S
      | none => .no
    | none => .no
  | _, _ => .no
theorem cd_isi : CallD w (rIsi w.K) dIsi := by
  intro W L H S vs ds Q st r p
  revert r p
  refine pair_cases (P := fun ds => RepL w L H vs ds → Post w W L H (QV w Q) (dIsi ds S) → _) ?_ ?_ ?_ ?_ ds
  · intro r p; exact (show False from p).elim
  · intro d r p; exact (show False from by cases d <;> exact p).elim
  · intro d e r p
    obtain ⟨v, u, rfl, rv, ru⟩ := rep2 r
    cases ru with
    | ty t =>
      replace p : Post w W L H (QV w Q) (match tyName d with
        | some n => match isiT n t with
          | some b => .ok (.bl b) S
          | none => .no
        | none => .no) := p
      cases e1 : tyName d with
      | none => rw [e1] at p; exact (show False from p).elim
      | some n =>
        simp only [e1] at p
        cases e2 : isiT n t with
        | none => simp only [e2] at p; exact (show False from p).elim
        | some b =>
          simp only [e2] at p
          obtain ⟨tx, hn⟩ := tyName_x e1 st rv
          exact ⟨v, .ty t, _, _, b, rfl, .ty t, tx, kit_ty (isiT_kit hn e2), p.here st _ (.bl _)⟩
    | _ => exact (show False from by cases d <;> exact p).elim
  · intro d e f r r' p; exact (show False from by cases d <;> cases e <;> exact p).elim
theorem de_isi (hm : X.mg "isinstance" = none) (ha : DA X W (e :: es) fa) (hg : Gl X "isinstance" := by rfl) (he : starEach (e :: es) X.env = (false, eval e X.env) :: starEach es X.env := by rfl) (hpl : (backTo pos (starEach es X.env)).any (·.1) = false := by rfl) :
    DE X W (.Call (.Name "isinstance" p) (e :: es) [] pos) (eCB dIsi fa) := de_callB call_isi cd_isi hm (by decide +kernel) ha hg (by decide) (by decide) he hpl
/-! ### in, not in: a whole number among whole numbers -/
theorem inV_ints (i : Int) (ns : List Int) : inV (.int i) (ns.map V.int) = decide (i ∈ ns) := by
  unfold inV
  induction ns with
  | nil => rfl
  | cons n r ih =>
    rw [List.map_cons, List.any_cons, ih]
    show ((n == i) || _) = _
    by_cases e : n = i
    · subst e; simp
    · have : (n == i) = false := by simpa using e
      rw [this]
      simp [Ne.symm e]
theorem flat_ints (ns : List Int) : (ns.map V.int).all flatV = true := by
  induction ns with
  | nil => rfl
  | cons n r ih => rw [List.map_cons, List.all_cons, ih]; rfl
def inD (neg : Bool) : D → D → Store → Res D
  | .int i, d, S => match items S d with
    | some xs => match intsOf xs with
      | some ns => .ok (.bl (if neg = true then !decide (i ∈ ns) else decide (i ∈ ns))) S
      | none => .no
    | none => .no
  | _, _, _ => .no
theorem od_in (neg : Bool) : OpD w (rIn w.K neg) (inD neg) := by
  intro W L H S x y a b Q st rx ry p
  cases rx with
  | int i =>
    replace p : Post w W L H (QV w Q) (match items S b with
      | some xs => match intsOf xs with
        | some ns => .ok (.bl (if neg = true then !decide (i ∈ ns) else decide (i ∈ ns))) S
        | none => .no
      | none => .no) := p
    cases e1 : items S b with
    | none => simp only [e1] at p; exact (show False from p).elim
    | some xs =>
      simp only [e1] at p
      cases e2 : intsOf xs with
      | none => simp only [e2] at p; exact (show False from p).elim
      | some ns =>
        simp only [e2] at p
        obtain ⟨c, us, rfl, ru, q⟩ := items_ok e1 st ry
        have e3 := intsOf_rep e2 ru
        subst e3
        refine ⟨c, _, rfl, q, rfl, flat_ints ns, ?_⟩
        rw [inV_ints]
        exact p.here st _ (.bl _)
  | _ => exact (show False from by cases b <;> exact p).elim
abbrev dIn : D → D → Store → Res D := inD false
abbrev dNin : D → D → Store → Res D := inD true
theorem de_in (ha : DE X W a sa) (hb : DE X W b sb) (hm : behindInMarks .In b = false := by rfl) : DE X W (.Compare a [.In] [b] pos) (eOp dIn sa sb) := de_cmp op_in_seq (od_in false) ha hb hm
theorem dt_in (ha : DE X W a sa) (hb : DE X W b sb) (hm : behindInMarks .In b = false := by rfl) : DT X W (.Compare a [.In] [b] pos) (tOfE (eOp dIn sa sb)) := dt_cmp op_in_seq (od_in false) ha hb hm
theorem de_nin (ha : DE X W a sa) (hb : DE X W b sb) (hm : behindInMarks .NotIn b = false := by rfl) : DE X W (.Compare a [.NotIn] [b] pos) (eOp dNin sa sb) := de_cmp op_notIn_seq (od_in true) ha hb hm
theorem dt_nin (ha : DE X W a sa) (hb : DE X W b sb) (hm : behindInMarks .NotIn b = false := by rfl) : DT X W (.Compare a [.NotIn] [b] pos) (tOfE (eOp dNin sa sb)) := dt_cmp op_notIn_seq (od_in true) ha hb hm
/-! ### subscripts, slices -/
def dIx : D → D → Store → Res D
  | .str x, .int i, S => if small x.length = true then (match atI x.cps.toList i with
      | some c => .ok (.str ⟨#[c]⟩) S
      | none => .no) else .no
  | d, .int i, S => match items S d with
    | some xs => opt (atI xs i) S
    | none => .no
  | _, _, _ => .no
theorem atI_rep {vs : List V} {ds : List D} {i : Int} {d : D} (r : RepL w L H vs ds) (e : atI ds i = some d) : ∃ v, atI vs i = some v ∧ Rep w L H v d := by
  unfold atI at e ⊢
  rw [r.len]
  cases h : ixN ds.length i with
  | none => rw [h] at e; cases e
  | some j =>
    rw [h] at e
    exact r.get e
theorem od_ix : OpD w (rIx w.K) dIx := by
  intro W L H S x y a b Q st rx ry p
  have gen : ∀ {d : D} {v : V} {i : Int}, Rep w L H v d → Post w W L H (QV w Q) (match items S d with
    | some xs => opt (atI xs i) S
    | none => .no) → rIx w.K v (.int i) H Q := fun {d v i} rv p => by
    cases e : items S d with
    | none => simp only [e] at p; exact (show False from p).elim
    | some xs =>
      simp only [e] at p
      cases e2 : atI xs i with
      | none => rw [e2] at p; exact (show False from p).elim
      | some z =>
        rw [e2] at p
        obtain ⟨c, us, rfl, ru, q⟩ := items_ok e st rv
        obtain ⟨u, hu, rz⟩ := atI_rep ru e2
        rcases q with q | q
        · exact .inl ⟨c, us, i, u, rfl, rfl, q, hu, p.here st _ rz⟩
        · exact .inr (.inl ⟨c, us, i, u, rfl, rfl, q, hu, p.here st _ rz⟩)
  cases ry with
  | int i =>
    cases rx with
    | str z =>
      replace p : Post w W L H (QV w Q) (if small z.length = true then (match atI z.cps.toList i with
        | some c => .ok (.str ⟨#[c]⟩) S
        | none => .no) else .no) := p
      by_cases h : small z.length = true
      · rw [if_pos h] at p
        cases e : atI z.cps.toList i with
        | none => simp only [e] at p; exact (show False from p).elim
        | some c =>
          simp only [e] at p
          exact .inr (.inr ⟨z, i, c, rfl, rfl, small_le h, e, p.here st _ (.str _)⟩)
      · rw [if_neg h] at p
        exact p.elim
    | tup h n r => exact gen (.tup h n r) p
    | lst h n r => exact gen (.lst h n r) p
    | scr h => exact gen (.scr h) p
    | ref h k => exact gen (.ref h k) p
    | _ => exact (show False from p).elim
  | _ => exact (show False from by cases a <;> exact p).elim
theorem de_sub1 (ha : DE X W a sa) (hb : DE X W b sb) (hs : PlainIx b := by exact fun _ _ => rfl) : DE X W (.Subscript a b pos) (eOp dIx sa sb) := de_ix ix_seq od_ix ha hb hs
def cutD (xs : List D) (lo hi : Option Int) : List D := (xs.drop (HT.sIx xs.length 0 lo)).take (HT.sIx xs.length xs.length hi - HT.sIx xs.length 0 lo)
theorem cut_rep {vs : List V} {ds : List D} (lo hi : Option Int) (r : RepL w L H vs ds) : RepL w L H (cutV vs lo hi) (cutD ds lo hi) := by
  unfold cutV cutD
  rw [r.len]
  exact (r.drop _).take _
def dSlice : D → Option Int → Option Int → Store → Res D
  | .tup xs, lo, hi, S => .ok (.tup (cutD xs lo hi)) S
  | .lst xs, lo, hi, S => .ok (.lst (cutD xs lo hi)) S
  | .ref n, lo, hi, S => match cell S n with
    | some xs => .ok (.lst (cutD xs lo hi)) S
    | none => .no
  | _, _, _, _ => .no
theorem sd_slice : SlD w (fun x lo hi H Q => rSlA w.K x lo hi H Q ∨ rSlL w.K x lo hi H Q) dSlice := by
  intro W L H S x d lo hi Q st r p
  cases r with
  | @tup a vs ds h n r =>
    replace p : Post w W L H (QV w Q) (.ok (.tup (cutD ds lo hi)) S) := p
    refine .inl ⟨a, vs, rfl, .inl h, fun hw => ?_, fun _ q hq => ?_⟩
    · refine p.here st _ (.tup h n ?_)
      have := cut_rep lo hi r
      have e : cutD ds lo hi = ds := by
        unfold cutD
        rw [r.len] at hw
        rw [hw.1, hw.2]
        simp
      rw [e]
      exact r
    · exact p.there (st.ex hq) (st.new hq) _ (.tup (.inl upd_same) (st.no hq) ((cut_rep lo hi r).mono (st.ex hq)))
  | @lst a vs ds h n r =>
    replace p : Post w W L H (QV w Q) (.ok (.lst (cutD ds lo hi)) S) := p
    exact .inr ⟨a, vs, rfl, .of h, fun q hq => p.there (st.ex hq) (st.new hq) _ (.lst upd_same (st.no hq) ((cut_rep lo hi r).mono (st.ex hq)))⟩
  | @ref a n h =>
    replace p : Post w W L H (QV w Q) (match cell S n with
      | some xs => .ok (.lst (cutD xs lo hi)) S
      | none => .no) := p
    cases e : cell S n with
    | none => simp only [e] at p; exact (show False from p).elim
    | some xs =>
      simp only [e] at p
      obtain ⟨vs, hv, q⟩ := cell_ok e st h
      exact .inr ⟨a, vs, rfl, .of hv, fun q' hq => p.there (st.ex hq) (st.new hq) _ (.lst upd_same (st.no hq) ((cut_rep lo hi q).mono (st.ex hq)))⟩
  | _ => exact (show False from p).elim
theorem de_slc {lo hi : Option Expr} {fl fh : SO} {p2 : Pos} (ha : DE X W a sa) (hl : DO X W lo fl) (hh : DO X W hi fh) : DE X W (.Subscript a (.Slice lo hi none p2) pos) (eSl dSlice sa fl fh) := de_slice (sl_tupA.or sl_list) sd_slice ha hl hh
/-! ### list methods that write -/
def isLs : D → Bool
  | .lst _ => true
  | .ref _ => true
  | _ => false
theorem td_list : TyD w "list" isLs := by
  intro L H S x d s r k
  cases r with
  | lst h n r => exact .inl ⟨rfl, _, .of h⟩
  | @ref a n h kk =>
    obtain ⟨vs, hv⟩ := kk.is1
    exact .inl ⟨rfl, _, .of hv⟩
  | _ => exact absurd (show false = true from k) Bool.false_ne_true
def dAppend : D → List D → Store → Res D
  | .ref n, [y], S => match cell S n with
    | some xs => if small (xs.length + 1) = true then .ok .non (S.set n (.lst (xs ++ [y]))) else .no
    | none => .no
  | _, _, _ => .no
theorem md_append : MtD w rAppend dAppend := by
  intro W L H S x d vs ds Q st r rs p
  cases r with
  | @ref a n h =>
    match ds, p with
    | [y], p =>
      obtain ⟨v, rfl, rv⟩ := rep1 rs
      replace p : Post w W L H (QV w Q) (match cell S n with
        | some xs => if small (xs.length + 1) = true then .ok .non (S.set n (.lst (xs ++ [y]))) else .no
        | none => .no) := p
      cases e : cell S n with
      | none => simp only [e] at p; exact (show False from p).elim
      | some xs =>
        simp only [e] at p
        by_cases hz : small (xs.length + 1) = true
        · simp only [if_pos hz] at p
          obtain ⟨us, hv, q⟩ := cell_ok e st h
          refine ⟨a, us, v, rfl, rfl, hv, ?_, p.there (st.wr h hv) (st.write h hv (q.app (.cons rv .nil))) _ .non⟩
          rw [q.len]
          have := small_lt hz
          omega
        · simp only [if_neg hz] at p
          exact p.elim
    | [], p | _ :: _ :: _, p => exact (show False from p).elim
  | _ => exact (show False from p).elim
theorem de_append {o : Expr} {so : SE} {apos cpos : Pos} (ho : DE X W o so) (ha : DA X W (e :: es) fa)
    (hbase : attributeBase o "append" X.env (eval o X.env) = eval o X.env := by rfl)
    (hfew : ((backTo cpos (starEach (e :: es) X.env)).all (fun x => !x.1) && (backToKw cpos (keywordEach [] X.env)).all (fun x => x.1.isSome)
      && decide ((e :: es).length + ([] : List Keyword).length + (if ([] : List Keyword).isEmpty then 0 else 1) < 30)) = true := by rfl)
    (hline : (apos.endLine == cpos.line) = true := by rfl) (hs : starEach (e :: es) X.env = (false, eval e X.env) :: starEach es X.env := by rfl) (hplain : (backTo cpos (starEach es X.env)).any (·.1) = false := by rfl) :
    DE X W (.Call (.Attribute o "append" apos) (e :: es) [] cpos) (eBM isLs dAppend so fa) :=
  de_bm PySem.F.plainAttrs_list PySem.F.slot_list_append PySem.F.type_list_append mt_append td_list md_append ho ha hbase hfew hline hs hplain
end
end Ls
/-! LsE: targets, what is walked, comprehensions, statements, defs. -/
namespace Ls
open PySem PySem.Spec PyProof.Rows L2
section
variable {X : Cx} {W : XW} {w : Wd}
/-! ### the widest reading of a combinator -/
def canE (w : Wd) (W : XW) (f : SE) : TE := fun σ H Q => ∃ ρ L S, EnvR w L H ρ σ ∧ Sto w L H S ∧ Post w W L H (QV w Q) (f ρ S)
def canT (w : Wd) (W : XW) (f : SB) : TT := fun σ H Q => ∃ ρ L S, EnvR w L H ρ σ ∧ Sto w L H S ∧ Post w W L H (QB Q) (f ρ S)
theorem DE.can {e : Expr} {f : SE} (h : DE X W e f) : PE X e (canE (wd X W) W f) := by
  obtain ⟨t, p, r⟩ := h
  exact ⟨fun pins s σ H Q I ⟨ρ, L, S, er, st, q⟩ => p.run pins s σ H Q I (r ρ σ L H S Q er st q)⟩
theorem DT.can {e : Expr} {f : SB} (h : DT X W e f) : PT X e (canT (wd X W) W f) := by
  obtain ⟨t, p, r⟩ := h
  exact ⟨fun pins s σ H Q I ⟨ρ, L, S, er, st, q⟩ => p.run pins s σ H Q I (r ρ σ L H S Q er st q)⟩
theorem re_can {f : SE} : RE w W (canE w W f) f := fun ρ σ L H S Q er st p => ⟨ρ, L, S, er, st, p⟩
theorem rt_can {f : SB} : RT w W (canT w W f) f := fun ρ σ L H S Q er st p => ⟨ρ, L, S, er, st, p⟩
/-! ### targets: names, or a tuple of names -/
inductive Tgt where
  | one (i : Nat)
  | many (is : List Nat)
def Tgt.slots : Tgt → List Nat
  | .one i => [i]
  | .many is => is
def setAll : List Nat → List D → Rho → Option Rho
  | [], [], ρ => some ρ
  | i :: is, d :: ds, ρ => setAll is ds (ρ.set i (some d))
  | _, _, _ => none
def Tgt.asg : Tgt → D → Rho → Option Rho
  | .one i, d, ρ => some (ρ.set i (some d))
  | .many is, .tup ds, ρ => setAll is ds ρ
  | _, _, _ => none
/-- the same but at some slots -/
def Off (is : List Nat) (σ σ' : L2.St) : Prop := σ'.length = σ.length ∧ ∀ i, i ∉ is → σ'[i]? = σ[i]?
theorem Off.refl (is : List Nat) (σ : L2.St) : Off is σ σ := ⟨rfl, fun _ _ => rfl⟩
def RG (w : Wd) (g : TG) (t : Tgt) : Prop := ∀ (v : V) (d : D) (ρ ρ' : Rho) (σ : L2.St) (L : Ly) (H : Hp) (Q : L2.St → Hp → Prop), Rep w L H v d → EnvR w L H ρ σ → t.asg d ρ = some ρ' → (∀ σ', EnvR w L H ρ' σ' → Off t.slots σ σ' → Q σ' H) → g v σ H Q
def DG (X : Cx) (W : XW) (tg : Expr) (t : Tgt) : Prop := ∃ g, PG X tg g ∧ RG (wd X W) g t
def canG (w : Wd) (t : Tgt) : TG := fun v σ H Q => ∃ d ρ ρ' L, Rep w L H v d ∧ EnvR w L H ρ σ ∧ t.asg d ρ = some ρ' ∧ ∀ σ', EnvR w L H ρ' σ' → Off t.slots σ σ' → Q σ' H
theorem DG.can {tg : Expr} {t : Tgt} (h : DG X W tg t) : PG X tg (canG (wd X W) t) := by
  obtain ⟨g, p, r⟩ := h
  exact ⟨fun pins s σ H v u Q I rv ⟨d, ρ, ρ', L, h1, h2, h3, h4⟩ => p.run pins s σ H v u Q I rv (r v d ρ ρ' σ L H Q h1 h2 h3 h4)⟩
theorem dg_name {i : Nat} {x : Str} {pos : Pos} (hN : X.N.Nodup) (hi : X.N[i]? = some x := by rfl) (hx : Loc X.env.scope x := by first | exact Or.inl rfl | exact Or.inr rfl) (hf : X.fn x = true ∨ X.env.scope.names.lookup x = some .local := by first | exact .inl rfl | exact .inr rfl) : DG X W (.Name x pos) (.one i) := by
  refine ⟨gName i, pg_name hN hi hx hf, fun v d ρ ρ' σ L H Q rv er e k => ?_⟩
  cases e
  refine k _ (er.set i rv) ⟨by simp, fun j hj => ?_⟩
  rw [List.getElem?_set_ne (fun z => hj (by simp [Tgt.slots, z]))]
def RGs (w : Wd) (g : TGs) (is : List Nat) : Prop := ∀ (vs : List V) (ds : List D) (ρ ρ' : Rho) (σ : L2.St) (L : Ly) (H : Hp) (Q : L2.St → Hp → Prop), RepL w L H vs ds → EnvR w L H ρ σ → setAll is ds ρ = some ρ' → (∀ σ', EnvR w L H ρ' σ' → Off is σ σ' → Q σ' H) → g vs σ H Q
def DGs (X : Cx) (W : XW) (ts : List Expr) (is : List Nat) : Prop := ∃ g, PGs X ts g ∧ RGs (wd X W) g is
theorem dgs_nil : DGs X W [] [] := by
  refine ⟨gNil, pgs_nil, fun vs ds ρ ρ' σ L H Q rv er e k => ?_⟩
  cases rv with
  | nil =>
    cases e
    exact ⟨rfl, k σ er (Off.refl _ _)⟩
  | cons => cases e
theorem dgs_cons {i : Nat} {is : List Nat} {e : Expr} {es : List Expr} (h : DG X W e (.one i)) (hs : DGs X W es is) (hh : (assignEach (e :: es) X.env).map (·.2) = assign e X.env :: (assignEach es X.env).map (·.2) := by rfl) : DGs X W (e :: es) (i :: is) := by
  obtain ⟨g, p, r⟩ := h
  obtain ⟨gs, ps, rs⟩ := hs
  refine ⟨gCons g gs, pgs_cons p ps hh, fun vs ds ρ ρ' σ L H Q rv er e k => ?_⟩
  cases rv with
  | nil => cases e
  | @cons v vs d ds h t =>
    refine ⟨v, vs, rfl, r v d ρ _ σ L H _ h er rfl fun σ1 er1 o1 => rs vs ds _ ρ' σ1 L H Q t er1 e fun σ2 er2 o2 => k σ2 er2 ⟨o2.1.trans o1.1, fun j hj => ?_⟩⟩
    rw [o2.2 j fun z => hj (List.mem_cons_of_mem _ z), o1.2 j fun z => hj (by simp only [Tgt.slots, List.mem_singleton] at z; simp [z])]
theorem dg_tup {es : List Expr} {k n : Nat} {is : List Nat} {pos : Pos} (h : DGs X W es is) (hl : is.length = n := by rfl) (hc : X.calm = true := by rfl) (hn : (assignEach es X.env).length = n := by rfl) (hst : (assignEach es X.env).findIdx? (·.1) = none := by rfl) : DG X W (.Tuple es k pos) (.many is) := by
  obtain ⟨g, p, r⟩ := h
  refine ⟨_, pg_tup hc p hn hst, fun v d ρ ρ' σ L H Q rv er e k => ?_⟩
  cases rv with
  | @tup a vs ds h n' rr =>
    refine ⟨a, vs, rfl, .inl h, ?_, r vs ds ρ ρ' σ L H Q rr er e k⟩
    have len : ∀ (is : List Nat) (ds : List D) (ρ ρ' : Rho), setAll is ds ρ = some ρ' → ds.length = is.length := by
      intro is
      induction is with
      | nil => intro ds ρ ρ' e; cases ds with
        | nil => rfl
        | cons => cases e
      | cons i r ih => intro ds ρ ρ' e; cases ds with
        | nil => cases e
        | cons d t => simp [ih t _ _ e]
    rw [rr.len, len is ds ρ ρ' e, hl]
  | _ => cases e
/-! ### what is walked -/
/-- the items, and the cells that they stand in, with what these hold -/
abbrev Items := List D × List (Nat × List D)
def okSrc (its : Items) (S : Store) : Prop := ∀ p, p ∈ its.2 → cell S p.1 = some p.2
abbrev SI := Rho → Store → Res Items
/-- J yields the items -/
def Wk (w : Wd) (L₀ : Ly) (H₀ : Hp) (J : It) (its : Items) : Prop := ∀ (i : Nat) (L : Ly) (H : Hp) (S : Store), Ey L₀ H₀ L H → Sto w L H S → okSrc its S →
  (∀ d, its.1[i]? = some d → J.go i H ∧ ∀ x H', J.yld i H x H' → Ex L H L H' ∧ Sto w L H' S ∧ Rep w L H' x d) ∧ (its.1.length = i → J.stop i H)
def RI (w : Wd) (W : XW) (wi : TI) (f : SI) : Prop := ∀ (ρ : Rho) (σ : L2.St) (L : Ly) (H : Hp) (S : Store) (R : It → Hp → Prop), EnvR w L H ρ σ → Sto w L H S → Post w W L H (fun its _ L' H' => ∀ J, Wk w L' H' J its → R J H') (f ρ S) → wi σ H R
def DI (X : Cx) (W : XW) (tg iter : Expr) (f : SI) : Prop := ∃ wi, PI X tg iter wi ∧ RI (wd X W) W wi f
/-- a list (true) or a tuple (false) -/
def SqK (b : Bool) (K : PySem.W.Frag) (H : Hp) (a : Addr) (xs : List V) : Prop := match b with
  | true => SqL K H a xs
  | false => SqT K H a xs
/-- at a stands what is to be walked, now and later -/
def SrcW (w : Wd) (L₀ : Ly) (H₀ : Hp) (b : Bool) (a : Addr) (its : Items) : Prop := ∀ (L : Ly) (H : Hp) (S : Store), Ey L₀ H₀ L H → Sto w L H S → okSrc its S → ∃ vs, SqK b w.K H a vs ∧ RepL w L H vs its.1
theorem src_lst {L : Ly} {H : Hp} {a : Addr} {vs : List V} {ds : List D} (h : H a = some (.lst vs)) (n : a ∉ L) (r : RepL w L H vs ds) : SrcW w L H true a (ds, []) :=
  fun L' H' S e s _ => ⟨vs, .of (e.keep _ _ h noT_lst n).1, r.monoY e⟩
theorem src_tup {L : Ly} {H : Hp} {a : Addr} {vs : List V} {ds : List D} (h : Rd H a (.tup vs)) (n : a ∉ L) (r : RepL w L H vs ds) : SrcW w L H false a (ds, []) :=
  fun L' H' S e s _ => ⟨vs, .inl (e.z.rd h n).1, r.monoY e⟩
theorem src_ref {L : Ly} {H : Hp} {a : Addr} {n : Nat} {ds : List D} (h : L.c[n]? = some a) : SrcW w L H true a (ds, [(n, ds)]) := fun L' H' S e s ok => by
  have h' : L'.c[n]? = some a := by
    obtain ⟨N, q⟩ := e.pre
    rw [q, List.getElem?_append_left (List.getElem?_eq_some_iff.mp h).1]
    exact h
  obtain ⟨vs, hv, r⟩ := cell_ok (ok (n, ds) (by simp)) s h'
  exact ⟨vs, .of hv, r⟩
/-- what a value is walked by -/
def srcOf (S : Store) : D → Option Items
  | .tup xs => some (xs, [])
  | .lst xs => some (xs, [])
  | .ref n => match cell S n with
    | some xs => some (xs, [(n, xs)])
    | none => none
  | _ => none
theorem src_of {L : Ly} {H : Hp} {S : Store} {d : D} {v : V} {its : Items} (e : srcOf S d = some its) (s : Sto w L H S) (r : Rep w L H v d) : ∃ a b vs, v = .ref a ∧ SqK b w.K H a vs ∧ SrcW w L H b a its := by
  cases r with
  | @tup a vs ds h n r => cases e; exact ⟨a, false, vs, rfl, .inl h, src_tup h n r⟩
  | @lst a vs ds h n r => cases e; exact ⟨a, true, vs, rfl, .of h, src_lst h n r⟩
  | @ref a n h =>
    replace e : (match cell S n with
      | some xs => some (xs, [(n, xs)])
      | none => none) = some its := e
    cases e1 : cell S n with
    | none => rw [e1] at e; cases e
    | some xs =>
      rw [e1] at e
      cases e
      obtain ⟨vs, hv, q⟩ := cell_ok e1 s h
      exact ⟨a, true, vs, rfl, .of hv, src_ref h⟩
  | _ => exact nomatch e
def walked (d : D) (S : Store) : Res Items := opt (srcOf S d) S
def iSeq (f : SE) : SI := fun ρ S => (f ρ S).bind walked
theorem wk_seq {L : Ly} {H : Hp} {a : Addr} {its : Items} (b : Bool) (q : SrcW w L H b a its) : Wk w L H (if b = true then Itl w.K a else Itt w.K a) its := by
  intro i L' H' S e s ok
  obtain ⟨vs, hq, r⟩ := q L' H' S e s ok
  cases b with
  | true =>
    refine ⟨fun d hd => ?_, fun hl => ⟨vs, hq, by rw [r.len]; exact Nat.le_of_eq hl⟩⟩
    obtain ⟨v, hv, rv⟩ := r.get hd
    refine ⟨⟨vs, v, hq, hv⟩, fun x H2 y => ?_⟩
    obtain ⟨rfl, y⟩ := y
    have hx : x = v := Option.some.inj ((y vs hq).symm.trans hv)
    subst hx
    exact ⟨Ex.refl _ _, s, rv⟩
  | false =>
    refine ⟨fun d hd => ?_, fun hl => ⟨vs, hq, by rw [r.len]; exact Nat.le_of_eq hl⟩⟩
    obtain ⟨v, hv, rv⟩ := r.get hd
    refine ⟨⟨vs, v, hq, hv⟩, fun x H2 y => ?_⟩
    obtain ⟨rfl, y⟩ := y
    have hx : x = v := Option.some.inj ((y vs hq).symm.trans hv)
    subst hx
    exact ⟨Ex.refl _ _, s, rv⟩
/-- a list or a tuple is walked -/
def iBoth (K : PySem.W.Frag) (tl : TE) : TI := fun σ H R => tl σ H fun x H1 => ∃ a xs, x = .ref a ∧ ((SqL K H1 a xs ∧ R (Itl K a) H1) ∨ (SqT K H1 a xs ∧ R (Itt K a) H1))
theorem pi_both {tg l : Expr} {tl : TE} (hl : PE X l tl) : PI X tg l (iBoth X.K tl) := by
  constructor
  intro pins s σ H R I h
  apply thn (hl.run pins s σ H _ I h)
  rintro v s1 ⟨x, H1, I1, r1, a, xs, rfl, q⟩
  cases r1
  have new : ∀ {b : Addr}, b ∈ [s1.heap.objs.size] → FpOk X pins H1 b := by
    intro b hb
    rw [List.mem_singleton.mp hb]
    exact I1.fpOk (Nat.le_refl _) I1.fresh
  rcases q with ⟨hq, q⟩ | ⟨hq, q⟩
  · obtain ⟨its, _, pl, _⟩ := I1.list hq
    apply wpAny_pyIter_list pl.isList
    exact ⟨_, [s1.heap.objs.size], _, Itl X.K a, H1, rfl, I1.kept (t' := s1.toks) (fun _ _ e => Heap.get?_push_of_some _ e), turn_list a _, ⟨_, Heap.get?_push_size _ rfl, rfl, rfl⟩, fun b hb => new hb, q⟩
  · obtain ⟨its, _, pl, _⟩ := I1.tuple hq
    apply wpAny_pyIter_tuple (show s1.heap.IsTuple a its.toArray from pl)
    exact ⟨_, [s1.heap.objs.size], _, Itt X.K a, H1, rfl, I1.kept (t' := s1.toks) (fun _ _ e => Heap.get?_push_of_some _ e), turn_tuple a _, ⟨_, Heap.get?_push_size _ rfl, rfl, rfl⟩, fun b hb => new hb, q⟩
theorem di_seq {tg e : Expr} {f : SE} (h : DE X W e f) : DI X W tg e (iSeq f) := by
  obtain ⟨t, p, r⟩ := h
  refine ⟨_, pi_both p, fun ρ σ L H S R er st p => r ρ σ L H S _ er st (p.step fun d S1 L1 H1 e1 s1 p1 v rv => ?_)⟩
  unfold walked at p1
  cases e : srcOf S1 d with
  | none => rw [e] at p1; exact (show False from p1).elim
  | some its =>
    rw [e] at p1
    obtain ⟨a, b, vs, rfl, hq, q⟩ := src_of e s1 rv
    have p2 := (show Post (wd X W) W L1 H1 (fun its _ L' H' => ∀ J, Wk (wd X W) L' H' J its → R J H') (.ok its S1) from p1).here s1 _ (wk_seq b q)
    cases b with
    | true => exact ⟨a, vs, rfl, .inl ⟨hq, p2⟩⟩
    | false => exact ⟨a, vs, rfl, .inr ⟨hq, p2⟩⟩
/-- range -/
def rangeD (lo : Int) : Nat → List D
  | 0 => []
  | n + 1 => .int lo :: rangeD (lo + 1) n
theorem rangeD_len (lo : Int) (n : Nat) : (rangeD lo n).length = n := by
  induction n generalizing lo with
  | zero => rfl
  | succ n ih => simp [rangeD, ih]
theorem rangeD_get (lo : Int) (n i : Nat) (h : i < n) : (rangeD lo n)[i]? = some (.int (lo + i)) := by
  induction n generalizing lo i with
  | zero => omega
  | succ n ih =>
    cases i with
    | zero => simp [rangeD]
    | succ i =>
      rw [rangeD, List.getElem?_cons_succ, ih (lo + 1) i (by omega)]
      congr 2
      omega
theorem wk_range {L : Ly} {H : Hp} (lo : Int) (n : Nat) : Wk w L H (Itr lo n) (rangeD lo n, []) := by
  intro i L' H' S e s _
  refine ⟨fun d hd => ?_, fun hl => by rw [rangeD_len] at hl; exact Nat.le_of_eq hl⟩
  have hi : i < n := by
    have := (List.getElem?_eq_some_iff.mp hd).1
    rw [rangeD_len] at this
    exact this
  rw [rangeD_get lo n i hi] at hd
  cases hd
  refine ⟨hi, fun x H2 y => ?_⟩
  obtain ⟨rfl, rfl⟩ := y
  exact ⟨Ex.refl _ _, s, .int _⟩
def tameB (i : Int) : Bool := Nat.ble i.natAbs 1000000
theorem tame_of {i : Int} (h : tameB i = true) : -(2 ^ 62) ≤ i ∧ i < 2 ^ 62 := by
  unfold tameB at h
  simp only [Nat.ble_eq] at h
  omega
def rng1 : List D → Store → Res Items
  | [.int j], S => if tameB j = true then .ok (rangeD 0 j.toNat, []) S else .no
  | _, _ => .no
def rng2 : List D → Store → Res Items
  | [.int i, .int j], S => if (tameB i && tameB j) = true then .ok (rangeD i (j - i).toNat, []) S else .no
  | _, _ => .no
def iCall (g : List D → Store → Res Items) (f : SA) : SI := fun ρ S => (f ρ S).bind g
theorem di_range1 {tg a : Expr} {fa : SA} {p pos : Pos} (hm : X.mg "range" = none) (ha : DA X W [a] fa) (hg : Gl X "range" := by rfl) (hs : starEach [a] X.env = [(false, eval a X.env)] := by rfl) : DI X W tg (.Call (.Name "range" p) [a] [] pos) (iCall rng1 fa) := by
  obtain ⟨t, q, r⟩ := ha
  refine ⟨_, pi_range1 hg hm q hs, fun ρ σ L H S R er st p => r ρ σ L H S _ er st (p.step fun ds S1 L1 H1 e1 s1 p1 vs rs => ?_)⟩
  match ds, p1 with
  | [.int j], p1 =>
    obtain ⟨v, rfl, rv⟩ := rep1 rs
    cases rv
    replace p1 : Post (wd X W) W L1 H1 (fun its _ L' H' => ∀ J, Wk (wd X W) L' H' J its → R J H') (if tameB j = true then .ok (rangeD 0 j.toNat, []) S1 else .no) := p1
    by_cases h : tameB j = true
    · rw [if_pos h] at p1
      exact ⟨j, rfl, (tame_of h).1, (tame_of h).2, p1.here s1 _ (wk_range 0 j.toNat)⟩
    · rw [if_neg h] at p1
      exact p1.elim
  | [.tup _], p | [.non], p | [.bl _], p | [.lst _], p | [.str _], p | [.scr _], p | [.ref _], p | [.gl _], p | [.emp], p | [.ty _], p | [], p => exact (show False from p).elim
  | d :: _ :: _, p => exact (show False from by cases d <;> exact p).elim
theorem di_range2 {tg a b : Expr} {fa : SA} {p pos : Pos} (hm : X.mg "range" = none) (ha : DA X W [a, b] fa) (hg : Gl X "range" := by rfl) (hs : starEach [a, b] X.env = [(false, eval a X.env), (false, eval b X.env)] := by rfl) (hs2 : starEach [b] X.env = [(false, eval b X.env)] := by rfl) : DI X W tg (.Call (.Name "range" p) [a, b] [] pos) (iCall rng2 fa) := by
  obtain ⟨t, q, r⟩ := ha
  refine ⟨_, pi_range2 hg hm q hs hs2, fun ρ σ L H S R er st p => r ρ σ L H S _ er st (p.step fun ds S1 L1 H1 e1 s1 p1 vs rs => ?_)⟩
  revert rs p1
  refine pair_cases (P := fun ds => Post (wd X W) W L1 H1 (fun its _ L' H' => ∀ J, Wk (wd X W) L' H' J its → R J H') (rng2 ds S1) → RepL (wd X W) L1 H1 vs ds → _) ?_ ?_ ?_ ?_ ds
  · intro p _; exact (show False from p).elim
  · intro d p _; exact (show False from by cases d <;> exact p).elim
  · intro d e p rs
    obtain ⟨v, u, rfl, rv, ru⟩ := rep2 rs
    cases rv <;> cases ru <;> first | exact (show False from p).elim | skip
    rename_i i j
    replace p : Post (wd X W) W L1 H1 (fun its _ L' H' => ∀ J, Wk (wd X W) L' H' J its → R J H') (if (tameB i && tameB j) = true then .ok (rangeD i (j - i).toNat, []) S1 else .no) := p
    by_cases h : (tameB i && tameB j) = true
    · rw [if_pos h] at p
      have h' := Bool.and_eq_true_iff.mp h
      exact ⟨i, j, rfl, ⟨(tame_of h'.1).1, (tame_of h'.1).2, (tame_of h'.2).1, (tame_of h'.2).2⟩, p.here s1 _ (wk_range i _)⟩
    · rw [if_neg h] at p
      exact p.elim
  · intro d e f r p _; exact (show False from by cases d <;> cases e <;> exact p).elim
/-! ### comprehensions: nothing is raised within -/
def Res.bindX {α β : Type} (r : Res α) (f : α → Store → Res β) : Res β :=
  match r with
  | .ok a S => f a S
  | _ => .no
@[simp] theorem bindX_ok {α β : Type} (a : α) (S : Store) (f : α → Store → Res β) : (Res.ok a S).bindX f = f a S := rfl
theorem Post.stepX {α β : Type} {r : Res α} {f : α → Store → Res β} {La Lb : Ly} {Ha Hb : Hp} {R : β → Store → Ly → Hp → Prop} {R' : α → Store → Ly → Hp → Prop} (p : Post w W La Ha R (r.bindX f))
    (h : ∀ a S L' H', Ex Lb Hb L' H' → Sto w L' H' S → Post w W La Ha R (f a S) → R' a S L' H') : Post w W.q Lb Hb R' r := by
  cases r with
  | ok a S => exact fun L' H' e s => h a S L' H' e s p
  | exc x fs S => exact (show False from p).elim
  | no => exact (show False from p).elim
open Classical in
noncomputable def compL (vs : List Nat) (t : Tgt) (ft : SB) (fe : SE) (its : Items) : List D → Rho → List D → Store → Res (List D)
  | [], _, acc, S => if okSrc its S then .ok acc S else .no
  | x :: xs, ρ, acc, S => if okSrc its S then (opt (t.asg x (wipeD ρ vs)) S).bindX fun ρ2 S2 => (ft ρ2 S2).bindX fun b S3 =>
      if b = true then (fe ρ2 S3).bindX fun y S4 => if small (acc.length + 1) = true then compL vs t ft fe its xs ρ (acc ++ [y]) S4 else .no
      else compL vs t ft fe its xs ρ acc S3
    else .no
noncomputable def eComp (vs : List Nat) (fi : SI) (t : Tgt) (ft : SB) (fe : SE) (fin : List D → Store → Res D) : SE := fun ρ S => (fi ρ S).bind fun its S1 => (compL vs t ft fe its its.1 ρ [] S1).bind fin
theorem wipe_get {σ σ' : L2.St} : ∀ {vs : List Nat}, σ'.length = σ.length → (∀ i, i ∉ vs → σ'[i]? = σ[i]?) → wipe σ' vs = wipe σ vs := by
  have key : ∀ (σ : L2.St) (vs : List Nat) (i : Nat), (wipe σ vs)[i]? = if i ∈ vs ∧ i < σ.length then some none else σ[i]? := by
    intro σ vs
    induction vs with
    | nil => intro i; simp [wipe]
    | cons v vs ih =>
      intro i
      show ((wipe σ vs).set v none)[i]? = _
      by_cases hi : v = i
      · subst hi
        by_cases hl : v < σ.length
        · rw [List.getElem?_set_self (by rw [wipe_length]; exact hl), if_pos ⟨List.mem_cons_self, hl⟩]
        · rw [List.getElem?_eq_none (by simp [wipe_length]; omega), if_neg (fun z => hl z.2), List.getElem?_eq_none (by omega)]
      · rw [List.getElem?_set_ne hi, ih i]
        have : (i ∈ v :: vs ∧ i < σ.length) ↔ (i ∈ vs ∧ i < σ.length) := by simp [Ne.symm hi]
        simp only [this]
  intro vs hl h
  apply List.ext_getElem?
  intro i
  rw [key, key, hl]
  by_cases hi : i ∈ vs
  · by_cases hl' : i < σ.length
    · rw [if_pos ⟨hi, hl'⟩, if_pos ⟨hi, hl'⟩]
    · rw [if_neg (fun z => hl' z.2), if_neg (fun z => hl' z.2), List.getElem?_eq_none (by omega), List.getElem?_eq_none (by omega)]
  · rw [if_neg (fun z => hi z.1), if_neg (fun z => hi z.1), h i hi]
/-- how a comprehension's list is taken -/
def FinOk (fin : List D → Store → Res D) : Prop := ∀ (w : Wd) (W : XW) (L : Ly) (H H' : Hp) (S : Store) (Q : VK) (p : Addr) (vs : List V) (ds : List D) (L₀ : Ly), H' p = some (.lst vs) → Sto w (L.prv p) H' S → RepL w (L.prv p) H' vs ds → p ∉ L → Ex L₀ H L H' → H p = none →
  Post w W L₀ H (QV w Q) (fin ds S) → Q (.ref p) H'
def finL : List D → Store → Res D := fun xs S => .ok (.lst xs) S
theorem finL_ok : FinOk finL := by
  intro w W L H H' S Q p vs ds L₀ hp st r hn ex _ post
  exact post.there ex st.unp _ (.lst hp hn (RepL.go (L := L.prv p) (L' := L) rfl unp_keep (KindK.refl _ _) r))
def finC : List D → Store → Res D := fun xs S => .ok (.ref S.length) (S ++ [.lst xs])
theorem re_lc {wi : TI} {fi : SI} {t : Tgt} {ft : SB} {fe : SE} {vs : List Nat} {fin : List D → Store → Res D} (hv : ∀ i, i ∈ t.slots → i ∈ vs) (hf : FinOk fin) (hi : RI w W wi fi) :
    RE w W (tLc wi (canG w t) (canT w W.q ft) (canE w W.q fe) vs) (eComp vs fi t ft fe fin) := by
  intro ρ σ L H S Q er st p
  refine hi ρ σ L H S _ er st (p.step fun its S1 L1 H1 e1 s1 p1 J wk dd hD => ?_)
  have er1 : EnvR w L1 H1 ρ σ := er.mono e1
  have sP : Sto w (L1.prv dd) (upd H1 dd (.lst [])) S1 := s1.prv hD
  have yP : Ey L1 H1 (L1.prv dd) (upd H1 dd (.lst [])) := .of rfl (prv_keep s1 hD) (.new hD)
  refine ⟨fun i m Hi => ∃ (c : List Addr) (acc : List D) (us : List V) (Si : Store), m = its.1.length - i ∧ i ≤ its.1.length ∧ Ey L1 H1 ⟨c, dd :: L1.p⟩ Hi ∧ (∀ b, b ∈ L1.p → Hi b = H1 b) ∧ Sto w ⟨c, dd :: L1.p⟩ Hi Si ∧ Hi dd = some (.lst us) ∧ RepL w ⟨c, dd :: L1.p⟩ Hi us acc ∧
      Post w W L1 H1 (QV w Q) ((compL vs t ft fe its (its.1.drop i) ρ acc Si).bind fin), ⟨its.1.length, L1.c, [], [], S1, by simp, Nat.zero_le _, yP, fun b hb => ?_, sP, upd_same, .nil, ?_⟩, ?_⟩
  · have : b ≠ dd := fun e => s1.no hD (.inr (e ▸ hb))
    exact upd_ne this
  · exact p1
  · rintro i m Hi ⟨c, acc, us, Si, rfl, hi', ey, stl, sto, hDi, ra, post⟩
    by_cases hlt : i < its.1.length
    · have hx : its.1[i]? = some its.1[i] := by simp [hlt]
      have hdrop : its.1.drop i = its.1[i] :: its.1.drop (i + 1) := List.drop_eq_getElem_cons hlt
      rw [hdrop] at post
      unfold compL at post
      by_cases hs : okSrc its Si
      · rw [if_pos hs] at post
        obtain ⟨wgo, _⟩ := wk i ⟨c, dd :: L1.p⟩ Hi Si ey sto hs
        obtain ⟨go, yld⟩ := wgo _ hx
        refine .inr ⟨go, fun H' => ∃ (c : List Addr) (acc : List D) (us : List V) (Si : Store), Ey L1 H1 ⟨c, dd :: L1.p⟩ H' ∧ (∀ b, b ∈ L1.p → H' b = H1 b) ∧ Sto w ⟨c, dd :: L1.p⟩ H' Si ∧ H' dd = some (.lst us) ∧ RepL w ⟨c, dd :: L1.p⟩ H' us acc ∧
          Post w W L1 H1 (QV w Q) ((compL vs t ft fe its (its.1.drop (i + 1)) ρ acc Si).bind fin), fun H' ⟨c, acc, us, Si, a1, a2, a3, a4, a5, a6⟩ => ⟨its.1.length - (i + 1), by omega, c, acc, us, Si, rfl, hlt, a1, a2, a3, a4, a5, a6⟩, fun x H' y => ?_⟩
        obtain ⟨ex2, sto2, rx⟩ := yld x H' y
        cases ea : t.asg its.1[i] (wipeD ρ vs) with
        | none =>
          rw [ea] at post
          exact (show False from post).elim
        | some ρ2 =>
          rw [ea] at post
          have er2 : EnvR w ⟨c, dd :: L1.p⟩ H' (wipeD ρ vs) (wipe σ vs) := ((er1.monoY ey).mono ex2).wipe vs
          refine ⟨its.1[i], wipeD ρ vs, ρ2, ⟨c, dd :: L1.p⟩, rx, er2, ea, fun σ2 er3 off => ⟨?_, ρ2, ⟨c, dd :: L1.p⟩, Si, er3, sto2, ?_⟩⟩
          · have h1 : wipe σ2 vs = wipe (wipe σ vs) vs := wipe_get off.1 fun j hj => off.2 j fun z => hj (hv j z)
            rw [h1]
            exact wipe_get (wipe_length σ vs) fun j hj => wipe_out hj
          · have post2 : Post w W L1 H1 (QV w Q) (((ft ρ2 Si).bindX fun b S3 => if b = true then (fe ρ2 S3).bindX fun y S4 => if small (acc.length + 1) = true then compL vs t ft fe its (its.1.drop (i + 1)) ρ (acc ++ [y]) S4 else .no
                else compL vs t ft fe its (its.1.drop (i + 1)) ρ acc S3).bind fin) := post
            have post3 : Post w W L1 H1 (QV w Q) ((ft ρ2 Si).bindX fun b S3 => (if b = true then (fe ρ2 S3).bindX fun y S4 => if small (acc.length + 1) = true then compL vs t ft fe its (its.1.drop (i + 1)) ρ (acc ++ [y]) S4 else .no
                else compL vs t ft fe its (its.1.drop (i + 1)) ρ acc S3).bind fin) := by
              cases h : ft ρ2 Si with
              | ok a S => rw [h] at post2; exact post2
              | exc x fs S => rw [h] at post2; exact (show False from post2).elim
              | no => rw [h] at post2; exact (show False from post2).elim
            refine Post.stepX post3 fun b S3 L3 H3 e3 s3 post4 => ?_
            have hp3 : L3 = ⟨L3.c, dd :: L1.p⟩ := by
              have := e3.prv
              cases L3
              simp only at this
              rw [this]
            have hD3 : H3 dd = some (.lst us) := by
              rw [e3.still dd List.mem_cons_self, ex2.still dd List.mem_cons_self]
              exact hDi
            have ey3 : Ey L1 H1 L3 H3 := (ey.trans ex2.y).trans e3.y
            have stl3 : ∀ b, b ∈ L1.p → H3 b = H1 b := fun b hb => by
              rw [e3.still b (List.mem_cons_of_mem _ hb), ex2.still b (List.mem_cons_of_mem _ hb)]
              exact stl b hb
            have ra3 : RepL w L3 H3 us acc := (ra.mono ex2).mono e3
            cases b with
            | false =>
              show (if false = true then _ else _)
              rw [if_neg Bool.false_ne_true] at post4 ⊢
              rw [hp3] at ey3 s3 ra3
              exact ⟨L3.c, acc, us, S3, ey3, stl3, s3, hD3, ra3, post4⟩
            | true =>
              show (if true = true then _ else _)
              rw [if_pos rfl] at post4 ⊢
              refine ⟨ρ2, L3, S3, er3.mono e3, s3, ?_⟩
              have post5 : Post w W L1 H1 (QV w Q) ((fe ρ2 S3).bindX fun y S4 => (if small (acc.length + 1) = true then compL vs t ft fe its (its.1.drop (i + 1)) ρ (acc ++ [y]) S4 else .no).bind fin) := by
                cases h : fe ρ2 S3 with
                | ok a S => rw [h] at post4; exact post4
                | exc x fs S => rw [h] at post4; exact (show False from post4).elim
                | no => rw [h] at post4; exact (show False from post4).elim
              refine Post.stepX post5 fun y S4 L4 H4 e4 s4 post6 v rv => ?_
              have hD4 : H4 dd = some (.lst us) := by
                rw [e4.still dd (by rw [hp3]; exact List.mem_cons_self)]
                exact hD3
              by_cases hz : small (acc.length + 1) = true
              · rw [if_pos hz] at post6
                have hp4 : L4 = ⟨L4.c, dd :: L1.p⟩ := by
                  have := e4.prv
                  rw [hp3] at this
                  cases L4
                  simp only at this
                  rw [this]
                have ra4 : RepL w L4 H4 us acc := ra3.mono e4
                refine ⟨us, hD4, ?_, L4.c, acc ++ [y], us ++ [v], S4, ?_, ?_, ?_, upd_same, ?_, post6⟩
                · rw [ra.len]
                  have := small_lt hz
                  omega
                · rw [hp4] at e4
                  have k := (ey3.trans e4.y)
                  refine k.trans (.of rfl (wpr_keep (L := ⟨L4.c, dd :: L1.p⟩) List.mem_cons_self) (.wr hD4 rfl noF_lst))
                · intro b hb
                  have hbD : b ≠ dd := fun e => s1.no hD (.inr (e ▸ hb))
                  rw [upd_ne hbD, e4.still b (by rw [hp3]; exact List.mem_cons_of_mem _ hb)]
                  exact stl3 b hb
                · rw [hp4] at s4
                  exact s4.wpr List.mem_cons_self
                · rw [hp4] at ra4 rv
                  exact (ra4.app (.cons rv .nil)).go rfl (wpr_keep (L := ⟨L4.c, dd :: L1.p⟩) List.mem_cons_self) (.wr (o := .lst (us ++ [v])) hD4 rfl noF_lst)
              · rw [if_neg hz] at post6
                exact (show False from post6).elim
      · rw [if_neg hs] at post
        exact (show False from post).elim
    · have hi2 : i = its.1.length := by omega
      subst hi2
      rw [List.drop_length] at post
      unfold compL at post
      by_cases hs : okSrc its Si
      · rw [if_pos hs] at post
        obtain ⟨_, stop⟩ := wk its.1.length ⟨c, dd :: L1.p⟩ Hi Si ey sto hs
        refine .inl ⟨stop rfl, ?_⟩
        have hDL : dd ∉ (⟨c, L1.p⟩ : Ly) := fun z => by
          rcases z with z | z
          · exact sto.ap dd z List.mem_cons_self
          · exact s1.no hD (.inr z)
        refine hf w W ⟨c, L1.p⟩ H1 Hi Si Q dd us acc L1 hDi sto ra hDL ⟨ey.pre, rfl, fun b o h t n => ⟨(ey.keep b o h t n).1, fun z => (ey.keep b o h t n).2 ?_⟩, stl, ey.knd⟩ hD post
        rcases z with z | z
        · exact .inl z
        · exact .inr (List.mem_cons_of_mem _ z)
      · rw [if_neg hs] at post
        exact (show False from post).elim
end
end Ls
/-! LsF: comprehensions as expressions, statements, loops, defs and their calls, raise. -/
namespace Ls
open PySem PySem.Spec PyProof.Rows L2
section
variable {X : Cx} {W : XW} {w : Wd}
/-! ### a comprehension -/
def DTs (X : Cx) (W : XW) (ifs : List Expr) (f : SB) : Prop := ∃ t, PTs X ifs t ∧ RT (wd X W) W.q t f
def bYes : SB := fun _ S => .ok true S
theorem dts_nil : DTs X W [] bYes := ⟨_, pts_nil, fun ρ σ L H S Q er st p => p.here st⟩
theorem dts_one {c : Expr} {f : SB} (h : DT X W.q c f) : DTs X W [c] f := by
  obtain ⟨t, p, r⟩ := h
  exact ⟨t, pts_one p, r⟩
theorem DTs.can {ifs : List Expr} {f : SB} (h : DTs X W ifs f) : PTs X ifs (canT (wd X W) W.q f) := by
  obtain ⟨t, p, r⟩ := h
  exact ⟨fun pins s σ H Q I ⟨ρ, L, S, er, st, q⟩ => p.run pins s σ H Q I (r ρ σ L H S Q er st q)⟩
section
variable {elt tg iter : Expr} {ifs : List Expr} {scope : Scope} {pos : Pos} {fi : SI} {t : Tgt} {ft : SB} {fe : SE} {fin : List D → Store → Res D}
theorem de_lc (own : List (Str × Nat)) (hf : FinOk fin) (hN : X.N.Nodup) (ok : BlkOk X.N X.env.scope scope own) (hi : DI X W tg iter fi)
    (hg : ∀ (s : Shared) (H : Hp) (C : Addr) (cl : List (Str × Addr)) (fp : List Addr), DG (X.blk s H scope (compEnvC scope cl C X.env) fp) W tg t)
    (ht : ∀ (s : Shared) (H : Hp) (C : Addr) (cl : List (Str × Addr)) (fp : List Addr), DTs (X.blk s H scope (compEnvC scope cl C X.env) fp) W ifs ft)
    (he : ∀ (s : Shared) (H : Hp) (C : Addr) (cl : List (Str × Addr)) (fp : List Addr), DE (X.blk s H scope (compEnvC scope cl C X.env) fp) W.q elt fe)
    (hv : ∀ i, i ∈ t.slots → i ∈ own.map (·.2) := by decide) (hc : X.calm = true := by rfl) (hs : ∀ x, foldedSetIterable iter X.env x = pure x := by intro _; rfl) :
    DE X W (.ListComp elt [⟨tg, iter, ifs, 0⟩] scope pos) (eComp (own.map (·.2)) fi t ft fe fin) := by
  obtain ⟨wi, pi, ri⟩ := hi
  exact ⟨_, pe_lc hc hN pi ok (fun s H C cl fp => (hg s H C cl fp).can) (fun s H C cl fp => (ht s H C cl fp).can) (fun s H C cl fp => (he s H C cl fp).can) hs, re_lc hv hf ri⟩
end
/-! ### statements -/
inductive Fl where
  | nx (ρ : Rho)
  | rt (d : D)
  | bk (ρ : Rho)
  | ct (ρ : Rho)
abbrev SS := Rho → Store → Res Fl
def QS (w : Wd) (D : Ends) : Fl → Store → Ly → Hp → Prop
  | .nx ρ, _, L, H => ∀ σ, EnvR w L H ρ σ → D.nx σ H
  | .rt d, _, L, H => ∀ v, Rep w L H v d → D.rt v H
  | .bk ρ, _, L, H => ∀ σ, EnvR w L H ρ σ → D.bk σ H
  | .ct ρ, _, L, H => ∀ σ, EnvR w L H ρ σ → D.ct σ H
def RS (w : Wd) (W : XW) (t : TS) (f : SS) : Prop := ∀ (ρ : Rho) (σ : L2.St) (L : Ly) (H : Hp) (S : Store) (D : Ends), EnvR w L H ρ σ → Sto w L H S → Post w W L H (QS w D) (f ρ S) → t D σ H
def DS (X : Cx) (W : XW) (st : Stmt) (f : SS) : Prop := ∃ t, PS X st t ∧ RS (wd X W) W t f
def DSs (X : Cx) (W : XW) (st : List Stmt) (f : SS) : Prop := ∃ t, PSs X st t ∧ RS (wd X W) W t f
def sNext : SS := fun ρ S => .ok (.nx ρ) S
def sSeq (f g : SS) : SS := fun ρ S => (f ρ S).bind fun fl S1 => match fl with
  | .nx ρ1 => g ρ1 S1
  | fl => .ok fl S1
theorem dss_nil : DSs X W [] sNext := ⟨_, pss_nil, fun ρ σ L H S D er st p => p.here st σ er⟩
theorem dss_one {st : Stmt} {f : SS} (h : DS X W st f) : DSs X W [st] f := by
  obtain ⟨t, p, r⟩ := h
  exact ⟨t, pss_one p, r⟩
theorem dss_cons {st : Stmt} {rest : List Stmt} {f g : SS} (h : DS X W st f) (hr : DSs X W rest g) : DSs X W (st :: rest) (sSeq f g) := by
  obtain ⟨t, p, r⟩ := h
  obtain ⟨u, q, s⟩ := hr
  refine ⟨_, pss_cons p q, fun ρ σ L H S D er st p => r ρ σ L H S _ er st (p.step fun fl S1 L1 H1 e1 s1 p1 => ?_)⟩
  cases fl with
  | nx ρ1 => exact fun σ1 er1 => s ρ1 σ1 L1 H1 S1 D er1 s1 p1
  | rt d => exact p1.here s1
  | bk ρ1 => exact p1.here s1
  | ct ρ1 => exact p1.here s1
section
variable {e : Expr} {f : SE} {pos : Pos}
def sDrop (f : SE) : SS := fun ρ S => (f ρ S).bind fun _ S1 => .ok (.nx ρ) S1
theorem ds_expr (h : DE X W e f) (hs : swapsWith e none pos.line X.env = pure false := by rfl) : DS X W (.Expr e pos) (sDrop f) := by
  obtain ⟨t, p, r⟩ := h
  exact ⟨_, ps_expr p hs, fun ρ σ L H S D er st p => r ρ σ L H S _ er st (p.step fun d S1 L1 H1 e1 s1 p1 v rv => p1.here s1 σ (er.mono e1))⟩
def sRet (f : SE) : SS := fun ρ S => (f ρ S).bind fun d S1 => .ok (.rt d) S1
theorem ds_ret (h : DE X W e f) : DS X W (.Return (some e) pos) (sRet f) := by
  obtain ⟨t, p, r⟩ := h
  exact ⟨_, ps_ret p, fun ρ σ L H S D er st p => r ρ σ L H S _ er st (p.step fun d S1 L1 H1 e1 s1 p1 v rv => p1.here s1 v rv)⟩
theorem ds_pass : DS X W (.Pass pos) sNext := ⟨_, ps_pass, fun ρ σ L H S D er st p => p.here st σ er⟩
def sIf (c : SB) (a b : SS) : SS := fun ρ S => (c ρ S).bind fun k S1 => if k = true then a ρ S1 else b ρ S1
theorem ds_if {c : Expr} {a b : List Stmt} {fc : SB} {fa fb : SS} (hc : DT X W c fc) (ha : DSs X W a fa) (hb : DSs X W b fb) : DS X W (.If c a b pos) (sIf fc fa fb) := by
  obtain ⟨tc, pc, rc⟩ := hc
  obtain ⟨ta, pa, ra⟩ := ha
  obtain ⟨tb, pb, rb⟩ := hb
  refine ⟨_, ps_if pc pa pb, fun ρ σ L H S D er st p => rc ρ σ L H S _ er st (p.step fun k S1 L1 H1 e1 s1 q => ?_)⟩
  cases k with
  | false =>
    rw [if_neg Bool.false_ne_true] at q
    exact (show (if false = true then _ else _) from by rw [if_neg Bool.false_ne_true]; exact rb ρ σ L1 H1 S1 D (er.mono e1) s1 q)
  | true =>
    rw [if_pos rfl] at q
    exact (show (if true = true then _ else _) from by rw [if_pos rfl]; exact ra ρ σ L1 H1 S1 D (er.mono e1) s1 q)
/-- target = e, the target names -/
def sAsg (t : Tgt) (f : SE) : SS := fun ρ S => (f ρ S).bind fun d S1 => (opt (t.asg d ρ) S1).bind fun ρ1 S2 => .ok (.nx ρ1) S2
theorem rs_asg {te : TE} {g : TG} {t : Tgt} (r : RE w W te f) (rg : RG w g t) : RS w W (tAsg te g) (sAsg t f) := by
  refine fun ρ σ L H S D er st p => r ρ σ L H S _ er st (p.step fun d S1 L1 H1 e1 s1 p1 v rv => ?_)
  cases ea : t.asg d ρ with
  | none => rw [ea] at p1; exact (show False from p1).elim
  | some ρ1 =>
    rw [ea] at p1
    exact rg v d ρ ρ1 σ L1 H1 _ rv (er.mono e1) ea fun σ1 er1 _ => (show Post w W L1 H1 (QS w D) (.ok (.nx ρ1) S1) from p1).here s1 σ1 er1
theorem ds_set {i : Nat} {x : Str} {pos' : Pos} (hN : X.N.Nodup) (h : DE X W e f) (hi : X.N[i]? = some x := by rfl) (hx : Loc X.env.scope x := by first | exact Or.inl rfl | exact Or.inr rfl) (hs : swapsWith e (some (.Name x pos')) pos.line X.env = pure false := by rfl)
    (hf : X.fn x = true ∨ X.env.scope.names.lookup x = some .local := by first | exact .inl rfl | exact .inr rfl) : DS X W (.Assign [.Name x pos'] e pos) (sAsg (.one i) f) := by
  obtain ⟨t, p, r⟩ := h
  refine ⟨_, ps_set hN hi hx p hs hf, rs_asg r fun v d ρ ρ' σ L H Q rv er e k => ?_⟩
  cases e
  refine k _ (er.set i rv) ⟨by simp, fun j hj => ?_⟩
  rw [List.getElem?_set_ne (fun z => hj (by simp [Tgt.slots, z]))]
theorem ds_asg {tg : Expr} {t : Tgt} (h : DE X W e f) (hg : DG X W tg t) (hs : swapsWithSole [tg] e pos.line X.env = pure false := by rfl) (hw : swappedStores [tg] e X.env = pure none := by rfl)
    (h1 : (assignEach [tg] X.env).map (·.2) = [assign tg X.env] := by rfl) : DS X W (.Assign [tg] e pos) (sAsg t f) := by
  obtain ⟨te, p, r⟩ := h
  obtain ⟨g, pg, rg⟩ := hg
  exact ⟨_, ps_asg p pg hs hw h1, rs_asg r rg⟩
/-- x = [.. for ..] -/
theorem ds_setLc {i : Nat} {y : Str} {py pos' spos : Pos} {elt tg iter : Expr} {ifs : List Expr} {scope : Scope} {fi : SI} {t : Tgt} {ft : SB} {fe : SE} {fin : List D → Store → Res D} (own : List (Str × Nat)) (hf : FinOk fin) (hN : X.N.Nodup) (ok : BlkOk X.N X.env.scope scope own) (hi : DI X W tg iter fi)
    (hg : ∀ (s : Shared) (H : Hp) (C : Addr) (cl : List (Str × Addr)) (fp : List Addr), DG (X.blk s H scope (compEnvC scope cl C X.env) fp) W tg t)
    (ht : ∀ (s : Shared) (H : Hp) (C : Addr) (cl : List (Str × Addr)) (fp : List Addr), DTs (X.blk s H scope (compEnvC scope cl C X.env) fp) W ifs ft)
    (he : ∀ (s : Shared) (H : Hp) (C : Addr) (cl : List (Str × Addr)) (fp : List Addr), DE (X.blk s H scope (compEnvC scope cl C X.env) fp) W.q elt fe)
    (hsw : swapsWith (.ListComp elt [⟨tg, iter, ifs, 0⟩] scope pos') (some (.Name y py)) spos.line X.env = pure true) (hy : X.N[i]? = some y := by rfl) (hyl : X.env.scope.names.lookup y = some .local := by rfl)
    (hv : ∀ i, i ∈ t.slots → i ∈ own.map (·.2) := by decide) (hc : X.calm = true := by rfl) (hs : ∀ x, foldedSetIterable iter X.env x = pure x := by intro _; rfl) :
    DS X W (.Assign [.Name y py] (.ListComp elt [⟨tg, iter, ifs, 0⟩] scope pos') spos) (sAsg (.one i) (eComp (own.map (·.2)) fi t ft fe fin)) := by
  obtain ⟨wi, pi, ri⟩ := hi
  refine ⟨_, ps_setLc hc hN hy hyl hsw pi ok (fun s H C cl fp => (hg s H C cl fp).can) (fun s H C cl fp => (ht s H C cl fp).can) (fun s H C cl fp => (he s H C cl fp).can) hs, rs_asg (re_lc hv hf ri) fun v d ρ ρ' σ L H Q rv er e k => ?_⟩
  cases e
  refine k _ (er.set i rv) ⟨by simp, fun j hj => ?_⟩
  rw [List.getElem?_set_ne (fun z => hj (by simp [Tgt.slots, z]))]
/-- a, b = e1, e2 -/
def sPar (i j : Nat) (f : SA) : SS := fun ρ S => (f ρ S).bind fun ds S1 => match ds with
  | [x, y] => .ok (.nx ((ρ.set i (some x)).set j (some y))) S1
  | _ => .no
theorem ds_par {i j : Nat} {x y : Str} {a b : Expr} {fa : SA} {px py pt : Pos} {kt k2 : Nat} {pt2 : Pos} (hN : X.N.Nodup) (hij : i ≠ j) (ha : DA X W [a, b] fa)
    (hw : swappedStores [.Tuple [.Name x px, .Name y py] kt pt] (.Tuple [a, b] k2 pt2) X.env = pure (some [x, y]) := by rfl) (hi : X.N[i]? = some x := by rfl) (hj : X.N[j]? = some y := by rfl) (hx : X.env.scope.names.lookup x = some .local := by rfl) (hy : X.env.scope.names.lookup y = some .local := by rfl)
    (hs : swapsWithSole [.Tuple [.Name x px, .Name y py] kt pt] (.Tuple [a, b] k2 pt2) pos.line X.env = pure false := by rfl) (hc : X.calm = true := by rfl) :
    DS X W (.Assign [.Tuple [.Name x px, .Name y py] kt pt] (.Tuple [a, b] k2 pt2) pos) (sPar i j fa) := by
  obtain ⟨t, p, r⟩ := ha
  refine ⟨_, ps_par hc hN hi hj hij hx hy p hw hs, fun ρ σ L H S D er st p => r ρ σ L H S _ er st (p.step fun ds S1 L1 H1 e1 s1 p1 vs rs => ?_)⟩
  match ds, p1 with
  | [x, y], p1 =>
    obtain ⟨v, u, rfl, rv, ru⟩ := rep2 rs
    exact ⟨v, u, rfl, p1.here s1 _ (((er.mono e1).set i rv).set j ru)⟩
  | [], p1 => exact (show False from p1).elim
  | [_], p1 => exact (show False from p1).elim
  | _ :: _ :: _ :: _, p1 => exact (show False from p1).elim
/-- x op= e -/
def sAug (g : D → D → Store → Res D) (i : Nat) (f : SE) : SS := fun ρ S => (eVar i ρ S).bind fun x S0 => (f ρ S0).bind fun y S1 => (g x y S1).bind fun z S2 => .ok (.nx (ρ.set i (some z))) S2
theorem ds_augAdd {i : Nat} {x : Str} {pos' : Pos} (hN : X.N.Nodup) (h : DE X W e f) (hi : X.N[i]? = some x := by rfl) (hx : Loc X.env.scope x := by first | exact Or.inl rfl | exact Or.inr rfl)
    (hf : X.fn x = true ∨ X.env.scope.names.lookup x = some .local := by first | exact .inl rfl | exact .inr rfl) : DS X W (.AugAssign (.Name x pos') .Add e pos) (sAug (dInt0 fun i j => .int (i + j)) i f) := by
  obtain ⟨t, p, r⟩ := h
  refine ⟨_, ps_aug hN hi hx p ip_add hf, fun ρ σ L H S D er st p => ?_⟩
  unfold sAug eVar at p
  cases hv : ρ[i]? with
  | none => simp only [hv] at p; exact (show False from p).elim
  | some o =>
    cases o with
    | none => simp only [hv] at p; exact (show False from p).elim
    | some d =>
      simp only [hv, bind_ok] at p
      obtain ⟨v, h1, r1⟩ := er.2 i d hv
      refine ⟨v, h1, r ρ σ L H S _ er st (p.step fun y S1 L1 H1 e1 s1 p1 u ru => ?_)⟩
      cases r1 <;> cases ru <;> first | exact (show False from p1).elim | skip
      rename_i a b
      exact ⟨a, b, rfl, rfl, (show Post (wd X W) W L1 H1 (QS (wd X W) D) (.ok (.nx (ρ.set i (some (.int (a + b))))) S1) from p1).here s1 _ ((er.mono e1).set i (.int _))⟩
/-- o[i] = e, o a cell -/
def sSetIx (fo fi fe : SE) : SS := fun ρ S => (fe ρ S).bind fun d S1 => (fo ρ S1).bind fun o S2 => (fi ρ S2).bind fun k S3 => match o, k with
  | .ref n, .int i => (match cell S3 n with
    | some xs => (match ixN xs.length i with
      | some j => .ok (.nx ρ) (S3.set n (.lst (xs.set j d)))
      | none => .no)
    | none => .no)
  | _, _ => .no
theorem ds_setIx {o i : Expr} {fo fi : SE} {tpos : Pos} (ho : DE X W o fo) (hi : DE X W i fi) (he : DE X W e f)
    (ha : ∀ v, assign (.Subscript o i tpos) X.env v = (do
      let ov ← holding [v] (eval o X.env)
      let iv ← holding [v, ov] (eval i X.env)
      standAt tpos
      holding [v, ov, iv] (setItem ov iv v)
      release [v, ov, iv] []) := by intro _; rfl)
    (hs : swapsWithSole [.Subscript o i tpos] e pos.line X.env = pure false := by rfl) (hw : swappedStores [.Subscript o i tpos] e X.env = pure none := by rfl)
    (h1 : (assignEach [.Subscript o i tpos] X.env).map (·.2) = [assign (.Subscript o i tpos) X.env] := by rfl) : DS X W (.Assign [.Subscript o i tpos] e pos) (sSetIx fo fi f) := by
  obtain ⟨te, pe, re⟩ := he
  obtain ⟨to, po, ro⟩ := ho
  obtain ⟨ti, pi, ri⟩ := hi
  refine ⟨_, ps_asg pe (pg_sub po pi set_list ha) hs hw h1, fun ρ σ L H S D er st p => re ρ σ L H S _ er st (p.step fun d S1 L1 H1 e1 s1 p1 v rv => ro ρ σ L1 H1 S1 _ (er.mono e1) s1 (p1.step fun o S2 L2 H2 e2 s2 p2 u ru => ri ρ σ L2 H2 S2 _ ((er.mono e1).mono e2) s2 (p2.step fun k S3 L3 H3 e3 s3 p3 z rz => ?_)))⟩
  have ru' := ru.mono e3
  cases rz with
  | int i =>
    cases ru' with
    | @ref a n h =>
      replace p3 : Post (wd X W) W L3 H3 (QS (wd X W) D) (match cell S3 n with
        | some xs => (match ixN xs.length i with
          | some j => .ok (.nx ρ) (S3.set n (.lst (xs.set j d)))
          | none => .no)
        | none => .no) := p3
      cases ec : cell S3 n with
      | none => simp only [ec] at p3; exact (show False from p3).elim
      | some xs =>
        simp only [ec] at p3
        cases ej : ixN xs.length i with
        | none => simp only [ej] at p3; exact (show False from p3).elim
        | some j =>
          simp only [ej] at p3
          obtain ⟨vs, hv, q⟩ := cell_ok ec s3 h
          refine ⟨a, vs, i, j, rfl, rfl, hv, by rw [q.len]; exact ej, ?_⟩
          have ex : Ex L3 H3 L3 (upd H3 a (.lst (vs.set j v))) := s3.wr h hv
          exact p3.there ex (s3.write h hv (q.set ((rv.mono e2).mono e3) j)) σ ((((er.mono e1).mono e2).mono e3).mono ex)
    | _ => exact (show False from p3).elim
  | _ => exact (show False from by cases o <;> exact p3).elim
end
/-! ### for -/
open Classical in
noncomputable def forL (t : Tgt) (body : SS) (its : Items) : List D → Rho → Store → Res Fl
  | [], ρ, S => if okSrc its S then .ok (.nx ρ) S else .no
  | x :: xs, ρ, S => if okSrc its S then (opt (t.asg x ρ) S).bind fun ρ1 S1 => (body ρ1 S1).bind fun fl S2 => match fl with
      | .nx ρ2 => forL t body its xs ρ2 S2
      | .ct ρ2 => forL t body its xs ρ2 S2
      | .bk ρ2 => .ok (.nx ρ2) S2
      | .rt d => .ok (.rt d) S2
    else .no
noncomputable def sFor (t : Tgt) (fi : SI) (body : SS) : SS := fun ρ S => (fi ρ S).bind fun its S1 => forL t body its its.1 ρ S1
theorem ds_for {tg iter : Expr} {body : List Stmt} {fi : SI} {t : Tgt} {fb : SS} {pos : Pos} (hp : PassesOwn (model X.prog X.w) X.A X.env X.xe) (hi : DI X W tg iter fi) (hg : DG X W tg t) (hb : DSs X W body fb) (hc : X.calm = true := by rfl)
    (hs : ∀ x, foldedSetIterable iter X.env x = pure x := by intro _; rfl) : DS X W (.For tg iter body [] pos) (sFor t fi fb) := by
  obtain ⟨wi, pi, ri⟩ := hi
  obtain ⟨g, pg, rg⟩ := hg
  obtain ⟨tb, pb, rb⟩ := hb
  refine ⟨_, ps_for hp hc pi pg pb hs, fun ρ σ L H S D er st p => ri ρ σ L H S _ er st (p.step fun its S1 L1 H1 e1 s1 p1 J wk => ?_)⟩
  refine ⟨fun i m σi Hi => ∃ (ρi : Rho) (Li : Ly) (Si : Store), m = its.1.length - i ∧ i ≤ its.1.length ∧ Ex L1 H1 Li Hi ∧ EnvR (wd X W) Li Hi ρi σi ∧ Sto (wd X W) Li Hi Si ∧ Post (wd X W) W L1 H1 (QS (wd X W) D) (forL t fb its (its.1.drop i) ρi Si),
    ⟨its.1.length, ρ, L1, S1, by simp, Nat.zero_le _, Ex.refl _ _, er.mono e1, s1, p1⟩, ?_⟩
  rintro i m σi Hi ⟨ρi, Li, Si, rfl, hle, ex, eri, sti, post⟩
  by_cases hlt : i < its.1.length
  · have hx : its.1[i]? = some its.1[i] := by simp [hlt]
    have hdrop : its.1.drop i = its.1[i] :: its.1.drop (i + 1) := List.drop_eq_getElem_cons hlt
    rw [hdrop] at post
    unfold forL at post
    by_cases hsr : okSrc its Si
    · rw [if_pos hsr] at post
      obtain ⟨wgo, _⟩ := wk i Li Hi Si ex.y sti hsr
      obtain ⟨go, yld⟩ := wgo _ hx
      refine .inr ⟨go, fun σ' H' => ∃ (ρi : Rho) (Li : Ly) (Si : Store), Ex L1 H1 Li H' ∧ EnvR (wd X W) Li H' ρi σ' ∧ Sto (wd X W) Li H' Si ∧ Post (wd X W) W L1 H1 (QS (wd X W) D) (forL t fb its (its.1.drop (i + 1)) ρi Si),
        fun σ' H' ⟨ρ2, L2, S2, a1, a2, a3, a4⟩ => ⟨its.1.length - (i + 1), by omega, ρ2, L2, S2, rfl, hlt, a1, a2, a3, a4⟩, fun x H' y => ?_⟩
      obtain ⟨ex2, sto2, rx⟩ := yld x H' y
      cases ea : t.asg its.1[i] ρi with
      | none => rw [ea] at post; exact (show False from post).elim
      | some ρ1 =>
        rw [ea] at post
        refine rg x _ ρi ρ1 σi Li H' _ rx (eri.mono ex2) ea fun σ1 er1 _ => rb ρ1 σ1 Li H' Si _ er1 sto2 ?_
        have post2 : Post (wd X W) W Li H' (QS (wd X W) D) ((fb ρ1 Si).bind fun fl S2 => match fl with
          | .nx ρ2 => forL t fb its (its.1.drop (i + 1)) ρ2 S2
          | .ct ρ2 => forL t fb its (its.1.drop (i + 1)) ρ2 S2
          | .bk ρ2 => .ok (.nx ρ2) S2
          | .rt d => .ok (.rt d) S2) := Post.mono (ex.trans ex2) post
        have keep : ∀ fl S2, fb ρ1 Si = .ok fl S2 → Post (wd X W) W L1 H1 (QS (wd X W) D) (match fl with
          | .nx ρ2 => forL t fb its (its.1.drop (i + 1)) ρ2 S2
          | .ct ρ2 => forL t fb its (its.1.drop (i + 1)) ρ2 S2
          | .bk ρ2 => .ok (.nx ρ2) S2
          | .rt d => .ok (.rt d) S2) := fun fl S2 h => by
          have := post
          rw [opt_some, bind_ok, h, bind_ok] at this
          exact this
        cases hr : fb ρ1 Si with
        | no => rw [hr] at post2; exact (show False from post2).elim
        | exc x fs S2 =>
          rw [hr] at post2
          cases W with | mk T E er => cases E <;> exact post2
        | ok fl S2 =>
          have k := keep fl S2 hr
          intro L3 H3 e3 s3
          have ex3 : Ex L1 H1 L3 H3 := (ex.trans ex2).trans e3
          cases fl with
          | nx ρ2 => exact fun σ2 er2 => ⟨ρ2, L3, S2, ex3, er2, s3, k⟩
          | ct ρ2 => exact fun σ2 er2 => ⟨ρ2, L3, S2, ex3, er2, s3, k⟩
          | bk ρ2 => exact fun σ2 er2 => (show Post (wd X W) W L1 H1 (QS (wd X W) D) (.ok (.nx ρ2) S2) from k).there ex3 s3 σ2 er2
          | rt d => exact fun v rv => (show Post (wd X W) W L1 H1 (QS (wd X W) D) (.ok (.rt d) S2) from k).there ex3 s3 v rv
    · rw [if_neg hsr] at post
      exact (show False from post).elim
  · have hi2 : i = its.1.length := by omega
    subst hi2
    rw [List.drop_length] at post
    unfold forL at post
    by_cases hsr : okSrc its Si
    · rw [if_pos hsr] at post
      obtain ⟨_, stop⟩ := wk its.1.length Li Hi Si ex.y sti hsr
      exact .inl ⟨stop rfl, post.there ex sti σi eri⟩
    · rw [if_neg hsr] at post
      exact (show False from post).elim
end
end Ls
/-! LsG: zip and enumerate over lists and tuples. -/
namespace Ls
open PySem PySem.Spec PyProof.Rows L2
/-! ### sources at the machine's level -/
def ItAt (b : Bool) (h : Heap) (it a : Addr) (i : Nat) : Prop := match b with
  | true => h.IsListIter it a i
  | false => h.IsTupleIter it a i
def SeqH (b : Bool) (h : Heap) (a : Addr) (items : Array Value) : Prop := match b with
  | true => h.IsList a items
  | false => h.IsTuple a items
def itObj (b : Bool) (a : Addr) : Obj := match b with
  | true => { cls := .type "list_iterator", data := .fields #[.ref a, .int 0 0] }
  | false => { cls := .type "tuple_iterator", data := .fields #[.ref a, .int 0 0] }
theorem drawsK {prog : Program} {w : World} {A : Around} (hh : A.handled = none) (b : Bool) (it l : Addr) (hne : l ≠ it) (items : Array Value) :
    Draws prog w A it [it, l] items.size (fun i v => items[i]? = some v) (fun i h => ItAt b h it l i ∧ SeqH b h l items) := by
  cases b
  · exact .tuple hh it l hne items
  · exact .list hh it l hne items
theorem beginsK (b : Bool) (l : Addr) (items : Array Value) : Begins (.ref l) (itObj b l) fun h => SeqH b h l items := by
  cases b
  · exact begins_tuple l items
  · exact begins_list l items
theorem ItAt.obj {b : Bool} {h : Heap} {it a : Addr} {i : Nat} (q : ItAt b h it a i) : ∃ o, h.get? it = some o ∧ ∀ v, o.data ≠ .cell v := by
  cases b
  · obtain ⟨o, e, _, d⟩ := q
    exact ⟨o, e, fun v z => by rw [d] at z; cases z⟩
  · obtain ⟨o, e, _, d⟩ := q
    exact ⟨o, e, fun v z => by rw [d] at z; cases z⟩
theorem ItAt.at {b : Bool} {h h' : Heap} {it a : Addr} {i : Nat} (q : ItAt b h it a i) (k : ∀ o, h.get? it = some o → h'.get? it = some o) : ItAt b h' it a i := by
  cases b
  · obtain ⟨o, e, r⟩ := q
    exact ⟨o, k o e, r⟩
  · obtain ⟨o, e, r⟩ := q
    exact ⟨o, k o e, r⟩
theorem ItAt.new {b : Bool} {h : Heap} {it a : Addr} (e : h.get? it = some (itObj b a)) : ItAt b h it a 0 := by
  cases b
  · exact ⟨_, e, rfl, rfl⟩
  · exact ⟨_, e, rfl, rfl⟩
section
variable {X : Cx} {pins : List (Addr × Obj)} {σ : L2.St} {H : Hp} {s : Shared}
theorem seqH_of {b : Bool} {a : Addr} {xs : List V} (I : Inv X pins σ H s) (h : SqK b X.K H a xs) : ∃ its : List Value, Vals xs its ∧ SeqH b s.heap a its.toArray ∧ a < s.heap.objs.size := by
  cases b
  · obtain ⟨its, r, p, _⟩ := I.tuple h
    obtain ⟨o, ho, _⟩ := id p
    exact ⟨its, r, p, Heap.lt_size ho⟩
  · obtain ⟨its, r, p, _⟩ := I.list h
    exact ⟨its, r, p.isList, p.lt⟩
theorem sqK_inj {b : Bool} {a : Addr} {xs ys : List V} (I : Inv X pins σ H s) (h : SqK b X.K H a xs) (h' : SqK b X.K H a ys) : xs = ys := by
  cases b
  · exact I.tuple_inj h h'
  · exact I.list_inj h h'
end
/-! ### enumerate -/
set_option maxHeartbeats 4000000 in
theorem meets_enum1 {v : Value} {o : Obj} {P : Heap → Prop} (B : Begins v o P) :
    Meets (Builtin.«enumerate.__new__» ⟨[.type "enumerate", v], []⟩) (fun _ R s => P s.heap ∧
      R (.ok (.ret (.ref (s.heap.push o).objs.size))) { s with heap := (s.heap.push o).push { cls := .type "enumerate", data := .fields #[.none, .bool false, .ref s.heap.objs.size, rawInt 0, .none, .none] } }) :=
  .of_wp fun prog w A R s h => by
    obtain ⟨hp, g, d, tk, os⟩ := s
    obtain ⟨hP, hR⟩ := h
    have sE := sub_enumerate
    have it : ∀ {A' : Around} {E' : Value → Shared → Prop} {Q' : Value → Shared → Prop}, Q' (.ref hp.objs.size) ⟨hp.push o, g, d, tk, os⟩ → wpAny (model prog w) A' (pyIter v) Q' E' ⟨hp, g, d, tk, os⟩ :=
      fun z => B.iter prog w _ _ ⟨hp, g, d, tk, os⟩ _ hP z
    wp_walk using it
    refine wpAny_stack_any fun fr => wpAny_pure ?_
    split
    · rename_i k _ _ _ _ _
      cases (k == Value.type "enumerate") <;> (wp_walk using it; exact ⟨_, rfl, hR⟩)
    · wp_walk using it
      exact ⟨_, rfl, hR⟩
section
variable {prog : Program} {w : World} {A : Around} {E : Value → Shared → Prop} {s : Shared}
theorem call_enum1 {v : Value} {o : Obj} {P : Heap → Prop} {Q : Value → Shared → Prop} (B : Begins v o P) (h1 : P s.heap)
    (h : ∀ h', IsEnum h' (s.heap.objs.size + 1) s.heap.objs.size 0 .none → h'.get? s.heap.objs.size = some o → (∀ b u, s.heap.get? b = some u → h'.get? b = some u) → Q (.ref (s.heap.objs.size + 1)) { s with heap := h' }) :
    wpAny (model prog w) A (call (.type "enumerate") [v]) Q E s := by
  refine callType_new F.called_enumerate (by decide) (F.typeCall_enumerate_1 _) (F.newCall_enumerate_1 _) (fun obj => F.args_object_init_2 obj _) F.entry_enumerate_new (meets_enum1 B) ⟨h1, ?_⟩
  have z1 : (s.heap.push o).objs.size = s.heap.objs.size + 1 := Heap.size_push ..
  show _ ∧ _
  rw [z1]
  have e1 : IsEnum ((s.heap.push o).push { cls := .type "enumerate", data := .fields #[.none, .bool false, .ref s.heap.objs.size, rawInt 0, .none, .none] }) (s.heap.objs.size + 1) s.heap.objs.size 0 .none := by
    have q := Heap.get?_push_size (s.heap.push o) (o := { cls := .type "enumerate", data := .fields #[.none, .bool false, .ref s.heap.objs.size, rawInt 0, .none, .none] }) rfl
    rw [z1] at q
    exact q
  exact ⟨⟨_, e1, rfl⟩, h _ e1 (Heap.get?_push_of_some _ (Heap.get?_push_size _ B.free)) fun b u x => Heap.get?_push_of_some _ (Heap.get?_push_of_some _ x)⟩
end
/-- what stands at a, its items with their numbers in new pairs -/
def IteK (b : Bool) (K : PySem.W.Frag) (a : Addr) : It :=
  ⟨fun i H => ∃ (xs : List V) (x : V), SqK b K H a xs ∧ xs[i]? = some x,
    fun i H v H' => ∃ T x, v = .ref T ∧ H T = none ∧ H' = upd H T (.tup [.int (i : Nat), x]) ∧ ∀ xs, SqK b K H a xs → xs[i]? = some x,
    fun i H => ∃ xs : List V, SqK b K H a xs ∧ xs.length = i⟩
theorem turn_enumK {P : Program} {w : World} {K : PySem.W.Frag} {elts : List Expr} {kk : Nat} {tpos : Pos} {b : Bool} {a e it : Addr} (hne : e ≠ it) (hea : e ≠ a) (hia : a ≠ it) :
    Turn P w K (.Tuple elts kk tpos) (IteK b K a) [e, it] e (fun i h => (∃ old, IsEnum h e it (0 + (i : Int)) old) ∧ ItAt b h it a i) where
  mem := by simp
  obj := fun i h st c hc => by
    obtain ⟨⟨old, he⟩, hi⟩ := st
    have e' : c = e ∨ c = it := by simpa using hc
    rcases e' with q | q
    · rw [q]; exact ⟨_, he, fun v q => nomatch q⟩
    · rw [q]; exact hi.obj
  keep := fun i h h' st k => by
    obtain ⟨⟨old, he⟩, hi⟩ := st
    exact ⟨⟨old, k e (by simp) _ he⟩, hi.at fun o q => k it (by simp) o q⟩
  item := by
    intro X hP hw hK hc i pins s σ H E I hf st hg
    subst hP hw hK
    obtain ⟨hE, hi⟩ := st
    obtain ⟨xs, x, hq, hx⟩ := hg
    obtain ⟨its, rv, hs, hal⟩ := seqH_of I hq
    obtain ⟨u, hu, ru⟩ := rv.get hx
    have hl : i < its.toArray.size := by
      have := (List.getElem?_eq_some_iff.mp hu).1
      simpa using this
    refine (GoesN.enumFrom 0 (drawsK (show X.A.in1.handled = none from I.ok.hd hc) b it a hia its.toArray) e hne (by simp [hne, hea]) (by simp)).goes i s _ E hl ⟨hE, hi, hs⟩ fun v h' tk y st' hk htk => ?_
    obtain ⟨T, t, x', rfl, hT, hx', hTT⟩ := y
    have ex : x' = u := Option.some.inj (hx'.symm.trans (by simpa using hu))
    subst ex
    have new : ObjOk X.prog X.w (upd H T (.tup [.int (i : Nat), x])) h' T (.tup [.int (i : Nat), x]) :=
      ⟨by show 2 ≤ sizeLine; decide, [.int (0 + (i : Int)) t, x'], .cons ⟨t, by rw [Int.zero_add]⟩ (.cons ru .nil), hTT⟩
    have I1 : Inv X pins σ (upd H T (.tup [.int (i : Nat), x])) { s with heap := h', toks := tk } := I.turnedNew (ch := [e, it]) hk hf hT new
    refine ⟨.ref T, _, I1, rfl, ⟨T, x, rfl, I.hok.fresh hT, rfl, fun ys hy => by rw [sqK_inj I hy hq]; exact hx⟩, ⟨st'.1, st'.2.1⟩, fun c hcm => ?_⟩
    have hlt : c < s.heap.objs.size := by
      have e' : c = e ∨ c = it := by simpa using hcm
      rcases e' with z | z
      · rw [z]; obtain ⟨_, q⟩ := hE; exact Heap.lt_size q
      · rw [z]; obtain ⟨_, q, _⟩ := hi.obj; exact Heap.lt_size q
    rw [upd_ne (Nat.ne_of_lt (Nat.lt_of_lt_of_le hlt hT))]
    exact (hf c hcm).1
  done := by
    intro X hP hw hK hc i pins s σ H E I hf st hg
    subst hP hw hK
    obtain ⟨hE, hi⟩ := st
    obtain ⟨xs, hq, hx⟩ := hg
    obtain ⟨its, rv, hs, hal⟩ := seqH_of I hq
    have hl : i = its.toArray.size := by
      have := rv.length
      simp
      omega
    subst hl
    exact (GoesN.enumFrom (elts := elts) (x1 := kk) (pos := tpos) 0 (drawsK (show X.A.in1.handled = none from I.ok.hd hc) b it a hia its.toArray) e hne (by simp [hne, hea]) (by simp)).stops s _ E ⟨hE, hi, hs⟩ fun h' tk hk htk => I.turnedL (ch := [e, it]) hk hf
  self := fun A i s Q E st h => let ⟨⟨_, he⟩, _⟩ := st; wpAny_pyIter_enum he h
def iEnumK (K : PySem.W.Frag) (ta : TA) : TI := fun σ H R => ta σ H fun vs H1 => ∃ a b xs, vs = [.ref a] ∧ SqK b K H1 a xs ∧ R (IteK b K a) H1
theorem pi_enumK {X : Cx} {e : Expr} {ta : TA} {p pos tpos : Pos} {elts : List Expr} {kk : Nat} (hg : Gl X "enumerate") (hm : X.mg "enumerate" = none) (ha : PA X [e] ta) (hs : starEach [e] X.env = [(false, eval e X.env)] := by rfl) :
    PI X (.Tuple elts kk tpos) (.Call (.Name "enumerate" p) [e] [] pos) (iEnumK X.K ta) := by
  refine ⟨fun pins s σ H R I h => ?_⟩
  refine Call_ (ld_blt I hg hm boot_enumerate (PyProof.Rows.callWith_type1 (thn (ha.run pos pins s σ H _ I h) fun us s1 ⟨vs, H1, I1, r1, q1⟩ => ?_) hs rfl))
  obtain ⟨a, b, xs, ex, hq, q⟩ := q1
  subst ex
  cases r1 with
  | cons r rr =>
    cases rr
    cases r
    obtain ⟨its, rv, hS, hal⟩ := seqH_of I1 hq
    refine call_enum1 (beginsK b a its.toArray) hS fun h' he hit hk => wpAny_pyIter_enum he ?_
    have I2 : Inv X pins σ H1 { s1 with heap := h' } := I1.kept (t' := s1.toks) hk
    have n1 : s1.heap.objs.size + 1 ≠ a := Nat.ne_of_gt (Nat.lt_succ_of_lt hal)
    refine ⟨s1.heap.objs.size + 1, [s1.heap.objs.size + 1, s1.heap.objs.size], _, _, H1, rfl, I2, turn_enumK (Nat.succ_ne_self _) n1 (Nat.ne_of_lt hal), ⟨⟨.none, he⟩, ItAt.new hit⟩, fun c hc => ?_, q⟩
    have hle : s1.heap.objs.size ≤ c := by
      have e' : c = s1.heap.objs.size + 1 ∨ c = s1.heap.objs.size := by simpa using hc
      rcases e' with z | z
      · rw [z]; exact Nat.le_add_right _ _
      · rw [z]; exact Nat.le_refl _
    exact I1.fpOk hle (I1.hok.fresh hle)
/-! ### zip -/
def ItzK (b c : Bool) (K : PySem.W.Frag) (a a' : Addr) : It :=
  ⟨fun i H => ∃ (xs ys : List V) (x y : V), SqK b K H a xs ∧ SqK c K H a' ys ∧ xs[i]? = some x ∧ ys[i]? = some y,
    fun i H v H' => ∃ T x y, v = .ref T ∧ H T = none ∧ H' = upd H T (.tup [x, y]) ∧ (∀ xs, SqK b K H a xs → xs[i]? = some x) ∧ ∀ ys, SqK c K H a' ys → ys[i]? = some y,
    fun i H => ∃ xs ys : List V, SqK b K H a xs ∧ SqK c K H a' ys ∧ min xs.length ys.length = i⟩
theorem turn_zipK {P : Program} {w : World} {K : PySem.W.Frag} {elts : List Expr} {kk : Nat} {tpos : Pos} {b c : Bool} {a a' z TI TO i1 i2 : Addr} (S : ZipSep2 z TI TO i1 i2 [i1, a] [i2, a']) (n1 : a ≠ i1) (n2 : a' ≠ i2) :
    Turn P w K (.Tuple elts kk tpos) (ItzK b c K a a') [z, TI, TO, i1, i2] z (fun i h => IsZip h z TI TO .none ∧ IsTupOf2 h TI (.ref i1) (.ref i2) ∧ (∃ x y, IsTupOf2 h TO x y) ∧ ItAt b h i1 a i ∧ ItAt c h i2 a' i) where
  mem := by simp
  obj := fun i h st d hd => by
    obtain ⟨hz, hTI, ⟨x, y, hTO⟩, h1, h2⟩ := st
    have e' : d = z ∨ d = TI ∨ d = TO ∨ d = i1 ∨ d = i2 := by simpa using hd
    rcases e' with q | q | q | q | q
    · rw [q]; exact ⟨_, hz, fun v q => nomatch q⟩
    · rw [q]; exact ⟨_, hTI, fun v q => nomatch q⟩
    · rw [q]; exact ⟨_, hTO, fun v q => nomatch q⟩
    · rw [q]; exact h1.obj
    · rw [q]; exact h2.obj
  keep := fun i h h' st k => by
    obtain ⟨hz, hTI, ⟨x, y, hTO⟩, h1, h2⟩ := st
    exact ⟨k z (by simp) _ hz, k TI (by simp) _ hTI, ⟨x, y, k TO (by simp) _ hTO⟩, h1.at fun o q => k i1 (by simp) o q, h2.at fun o q => k i2 (by simp) o q⟩
  item := by
    intro X hP hw hK hc i pins s σ H E I hf st hg
    subst hP hw hK
    obtain ⟨hz, hTI, hTO, h1, h2⟩ := st
    obtain ⟨xs, ys, x, y, hqx, hqy, hx, hy⟩ := hg
    obtain ⟨its, rv, hs1, _⟩ := seqH_of I hqx
    obtain ⟨its2, rv2, hs2, _⟩ := seqH_of I hqy
    obtain ⟨u, hu, ru⟩ := rv.get hx
    obtain ⟨u2, hu2, ru2⟩ := rv2.get hy
    have l1 : i < its.toArray.size := by
      have := (List.getElem?_eq_some_iff.mp hu).1
      simpa using this
    have l2 : i < its2.toArray.size := by
      have := (List.getElem?_eq_some_iff.mp hu2).1
      simpa using this
    have hh : X.A.in1.handled = none := I.ok.hd hc
    refine (GoesN.zip2 S (drawsK hh b i1 a n1 its.toArray) (drawsK hh c i2 a' n2 its2.toArray)).goes i s _ E (Nat.lt_min.mpr ⟨l1, l2⟩) ⟨hz, hTI, hTO, ⟨h1, hs1⟩, ⟨h2, hs2⟩⟩ fun v h' tk yy st' hk htk => ?_
    obtain ⟨T, x', y', rfl, hT, hx', hy', hTT⟩ := yy
    have ex : x' = u := Option.some.inj (hx'.symm.trans (by simpa using hu))
    have ey : y' = u2 := Option.some.inj (hy'.symm.trans (by simpa using hu2))
    subst ex ey
    have sub : ∀ d, d ∉ [z, TI, TO, i1, i2] → d ∉ [z, TO, i1, i2] := fun d hd q => hd (by
      simp only [List.mem_cons, List.mem_nil_iff, or_false] at q ⊢
      rcases q with q | q | q | q
      · exact .inl q
      · exact .inr (.inr (.inl q))
      · exact .inr (.inr (.inr (.inl q)))
      · exact .inr (.inr (.inr (.inr q))))
    have new : ObjOk X.prog X.w (upd H T (.tup [x, y])) h' T (.tup [x, y]) := ⟨by show 2 ≤ sizeLine; decide, [x', y'], .cons ru (.cons ru2 .nil), hTT⟩
    have I1 : Inv X pins σ (upd H T (.tup [x, y])) { s with heap := h', toks := tk } := I.turnedNew (ch := [z, TI, TO, i1, i2]) (fun d o hd q => hk d o (sub d hd) q) hf hT new
    refine ⟨.ref T, _, I1, rfl, ⟨T, x, y, rfl, I.hok.fresh hT, rfl, fun l hl => by rw [sqK_inj I hl hqx]; exact hx, fun l hl => by rw [sqK_inj I hl hqy]; exact hy⟩, ⟨st'.1, st'.2.1, st'.2.2.1, st'.2.2.2.1.1, st'.2.2.2.2.1⟩, fun d hdm => ?_⟩
    have hlt : d < s.heap.objs.size := by
      have e' : d = z ∨ d = TI ∨ d = TO ∨ d = i1 ∨ d = i2 := by simpa using hdm
      rcases e' with q | q | q | q | q
      · rw [q]; exact Heap.lt_size hz
      · rw [q]; exact Heap.lt_size hTI
      · rw [q]; obtain ⟨_, _, q⟩ := hTO; exact Heap.lt_size q
      · rw [q]; obtain ⟨_, q, _⟩ := h1.obj; exact Heap.lt_size q
      · rw [q]; obtain ⟨_, q, _⟩ := h2.obj; exact Heap.lt_size q
    rw [upd_ne (Nat.ne_of_lt (Nat.lt_of_lt_of_le hlt hT))]
    exact (hf d hdm).1
  done := by
    intro X hP hw hK hc i pins s σ H E I hf st hg
    subst hP hw hK
    obtain ⟨hz, hTI, hTO, h1, h2⟩ := st
    obtain ⟨xs, ys, hqx, hqy, hend⟩ := hg
    obtain ⟨its, rv, hs1, _⟩ := seqH_of I hqx
    obtain ⟨its2, rv2, hs2, _⟩ := seqH_of I hqy
    have hl : i = min its.toArray.size its2.toArray.size := by
      have q1 := rv.length
      have q2 := rv2.length
      simp
      omega
    subst hl
    have hh : X.A.in1.handled = none := I.ok.hd hc
    refine (GoesN.zip2 (elts := elts) (x1 := kk) (pos := tpos) S (drawsK hh b i1 a n1 its.toArray) (drawsK hh c i2 a' n2 its2.toArray)).stops s _ E ⟨hz, hTI, hTO, ⟨h1, hs1⟩, ⟨h2, hs2⟩⟩ fun h' tk hk htk => I.turnedL (ch := [z, TI, TO, i1, i2]) (fun d o hd q => hk d o (fun q => hd ?_) q) hf
    simp only [List.mem_cons, List.mem_nil_iff, or_false] at q ⊢
    rcases q with q | q | q | q
    · exact .inl q
    · exact .inr (.inr (.inl q))
    · exact .inr (.inr (.inr (.inl q)))
    · exact .inr (.inr (.inr (.inr q)))
  self := fun A i s Q E st h => wpAny_pyIter_zip st.1 h
def iZipK (K : PySem.W.Frag) (ta : TA) : TI := fun σ H R => ta σ H fun vs H1 => ∃ a a' b c xs ys, vs = [.ref a, .ref a'] ∧ SqK b K H1 a xs ∧ SqK c K H1 a' ys ∧ R (ItzK b c K a a') H1
theorem pi_zipK {X : Cx} {e e2 : Expr} {ta : TA} {p pos tpos : Pos} {elts : List Expr} {kk : Nat} (hg : Gl X "zip") (hm : X.mg "zip" = none) (ha : PA X [e, e2] ta)
    (hs : starEach [e, e2] X.env = (false, eval e X.env) :: starEach [e2] X.env := by rfl) (hpl : (backTo pos (starEach [e2] X.env)).any (·.1) = false := by rfl) :
    PI X (.Tuple elts kk tpos) (.Call (.Name "zip" p) [e, e2] [] pos) (iZipK X.K ta) := by
  refine ⟨fun pins s σ H R I h => ?_⟩
  refine Call_ (ld_blt I hg hm PyProof.Rows.boot_zip (PyProof.Rows.callWith_type1 (thn (ha.run pos pins s σ H _ I h) fun us s1 ⟨vs, H1, I1, r1, q1⟩ => ?_) hs hpl))
  obtain ⟨a, a', b, c, xs, ys, ex, hqx, hqy, q⟩ := q1
  subst ex
  cases r1 with
  | cons r rr =>
    cases rr with
    | cons r' rr =>
      cases rr
      cases r
      cases r'
      obtain ⟨its, rv, hs1, l1⟩ := seqH_of I1 hqx
      obtain ⟨its2, rv2, hs2, l2⟩ := seqH_of I1 hqy
      refine zip_begins2 (beginsK b a its.toArray) (beginsK c a' its2.toArray) hs1 hs2 fun h' hz hTI hTO h1 h2 hsz hk => wpAny_pyIter_zip hz ?_
      have I2 : Inv X pins σ H1 { s1 with heap := h' } := I1.kept (t' := s1.toks) hk
      have m2 : a' ≠ s1.heap.objs.size + 1 := Nat.ne_of_lt (Nat.lt_succ_of_lt l2)
      refine ⟨s1.heap.objs.size + 4, [s1.heap.objs.size + 4, s1.heap.objs.size + 2, s1.heap.objs.size + 3, s1.heap.objs.size, s1.heap.objs.size + 1], _, _, H1, rfl, I2,
        turn_zipK (zip_sep2 (fp1 := [a]) (fp2 := [a']) (fun d hd => by rw [List.mem_singleton.mp hd]; exact l1) (fun d hd => by rw [List.mem_singleton.mp hd]; exact l2)) (Nat.ne_of_lt l1) m2, ⟨hz, hTI, ⟨_, _, hTO⟩, ItAt.new h1, ItAt.new h2⟩, fun d hd => ?_, q⟩
      have hle : s1.heap.objs.size ≤ d := by
        have e' : d = s1.heap.objs.size + 4 ∨ d = s1.heap.objs.size + 2 ∨ d = s1.heap.objs.size + 3 ∨ d = s1.heap.objs.size ∨ d = s1.heap.objs.size + 1 := by simpa using hd
        rcases e' with z | z | z | z | z <;> rw [z]
        · exact Nat.le_add_right _ _
        · exact Nat.le_add_right _ _
        · exact Nat.le_add_right _ _
        · exact Nat.le_refl _
        · exact Nat.le_add_right _ _
      exact I1.fpOk hle (I1.hok.fresh hle)
/-! ### by data -/
section
variable {X : Cx} {W : XW} {w : Wd}
def enumFrom (n : Nat) : List D → List D
  | [] => []
  | x :: xs => .tup [.int (n : Nat), x] :: enumFrom (n + 1) xs
theorem enumFrom_len (n : Nat) (xs : List D) : (enumFrom n xs).length = xs.length := by
  induction xs generalizing n with
  | nil => rfl
  | cons x xs ih => simp [enumFrom, ih]
theorem enumFrom_get (n i : Nat) (xs : List D) : (enumFrom n xs)[i]? = xs[i]?.map fun x => .tup [.int ((n + i : Nat) : Int), x] := by
  induction xs generalizing n i with
  | nil => simp [enumFrom]
  | cons x xs ih =>
    cases i with
    | zero => simp [enumFrom]
    | succ i =>
      simp only [enumFrom, List.getElem?_cons_succ, ih]
      congr 1
      funext y
      congr 4
      omega
def zipD : List D → List D → List D
  | x :: xs, y :: ys => .tup [x, y] :: zipD xs ys
  | _, _ => []
theorem zipD_len (xs ys : List D) : (zipD xs ys).length = min xs.length ys.length := by
  induction xs generalizing ys with
  | nil => simp [zipD]
  | cons x xs ih =>
    cases ys with
    | nil => simp [zipD]
    | cons y ys => simp [zipD, ih]
theorem zipD_get {i : Nat} {d : D} : ∀ {xs ys : List D}, (zipD xs ys)[i]? = some d → ∃ x y, xs[i]? = some x ∧ ys[i]? = some y ∧ d = .tup [x, y] := by
  intro xs
  induction xs generalizing i with
  | nil => intro ys h; simp [zipD] at h
  | cons x xs ih =>
    intro ys h
    cases ys with
    | nil => simp [zipD] at h
    | cons y ys =>
      cases i with
      | zero =>
        simp [zipD] at h
        exact ⟨x, y, rfl, rfl, h.symm⟩
      | succ i =>
        simp only [zipD, List.getElem?_cons_succ] at h
        simpa using ih h
def enumI : List D → Store → Res Items
  | [d], S => match srcOf S d with
    | some its => .ok (enumFrom 0 its.1, its.2) S
    | none => .no
  | _, _ => .no
def zipI : List D → Store → Res Items
  | [d, e], S => match srcOf S d, srcOf S e with
    | some a, some b => .ok (zipD a.1 b.1, a.2 ++ b.2) S
    | _, _ => .no
  | _, _ => .no
theorem pair_new {L : Ly} {H : Hp} {S : Store} {T : Addr} {x y : V} {d e : D} (s : Sto w L H S) (hT : H T = none) (rx : Rep w L H x d) (ry : Rep w L H y e) : Ex L H L (upd H T (.tup [x, y])) ∧ Sto w L (upd H T (.tup [x, y])) S ∧ Rep w L (upd H T (.tup [x, y])) (.ref T) (.tup [d, e]) :=
  ⟨s.ex hT, s.new hT, .tup (.inl upd_same) (s.no hT) (.cons (rx.mono (s.ex hT)) (.cons (ry.mono (s.ex hT)) .nil))⟩
theorem wk_enum {L : Ly} {H : Hp} {a : Addr} {its : Items} {b : Bool} (q : SrcW w L H b a its) : Wk w L H (IteK b w.K a) (enumFrom 0 its.1, its.2) := by
  intro i L' H' S e s ok
  obtain ⟨vs, hq, r⟩ := q L' H' S e s ok
  refine ⟨fun d hd => ?_, fun hl => ⟨vs, hq, by rw [r.len]; simpa [enumFrom_len] using hl⟩⟩
  replace hd : (enumFrom 0 its.1)[i]? = some d := hd
  rw [enumFrom_get] at hd
  obtain ⟨x, hx, rfl⟩ := Option.map_eq_some_iff.mp hd
  obtain ⟨v, hv, rv⟩ := r.get hx
  refine ⟨⟨vs, v, hq, hv⟩, fun x' H2 y => ?_⟩
  obtain ⟨T, x2, rfl, hT, rfl, hy⟩ := y
  have e2 : x2 = v := Option.some.inj ((hy vs hq).symm.trans hv)
  subst e2
  rw [Nat.zero_add]
  exact pair_new s hT (.int _) rv
theorem wk_zip {L : Ly} {H : Hp} {a a' : Addr} {is js : Items} {b c : Bool} (q : SrcW w L H b a is) (q' : SrcW w L H c a' js) : Wk w L H (ItzK b c w.K a a') (zipD is.1 js.1, is.2 ++ js.2) := by
  intro i L' H' S e s ok
  obtain ⟨vs, hq, r⟩ := q L' H' S e s fun p hp => ok p (List.mem_append_left _ hp)
  obtain ⟨us, hq', r'⟩ := q' L' H' S e s fun p hp => ok p (List.mem_append_right _ hp)
  refine ⟨fun d hd => ?_, fun hl => ⟨vs, us, hq, hq', by rw [r.len, r'.len]; simpa [zipD_len] using hl⟩⟩
  obtain ⟨x, y, hx, hy, rfl⟩ := zipD_get hd
  obtain ⟨v, hv, rv⟩ := r.get hx
  obtain ⟨u, hu, ru⟩ := r'.get hy
  refine ⟨⟨vs, us, v, u, hq, hq', hv, hu⟩, fun x' H2 yy => ?_⟩
  obtain ⟨T, x2, y2, rfl, hT, rfl, h1, h2⟩ := yy
  have e1 : x2 = v := Option.some.inj ((h1 vs hq).symm.trans hv)
  have e2 : y2 = u := Option.some.inj ((h2 us hq').symm.trans hu)
  subst e1 e2
  exact pair_new s hT rv ru
theorem di_enum {e : Expr} {fa : SA} {p pos tpos : Pos} {elts : List Expr} {kk : Nat} (hm : X.mg "enumerate" = none) (ha : DA X W [e] fa) (hg : Gl X "enumerate" := by rfl) (hs : starEach [e] X.env = [(false, eval e X.env)] := by rfl) :
    DI X W (.Tuple elts kk tpos) (.Call (.Name "enumerate" p) [e] [] pos) (iCall enumI fa) := by
  obtain ⟨t, q, r⟩ := ha
  refine ⟨_, pi_enumK hg hm q hs, fun ρ σ L H S R er st p => r ρ σ L H S _ er st (p.step fun ds S1 L1 H1 e1 s1 p1 vs rs => ?_)⟩
  match ds, p1 with
  | [d], p1 =>
    obtain ⟨v, rfl, rv⟩ := rep1 rs
    replace p1 : Post (wd X W) W L1 H1 (fun its _ L' H' => ∀ J, Wk (wd X W) L' H' J its → R J H') (match srcOf S1 d with
      | some its => .ok (enumFrom 0 its.1, its.2) S1
      | none => .no) := p1
    cases es : srcOf S1 d with
    | none => simp only [es] at p1; exact (show False from p1).elim
    | some its =>
      simp only [es] at p1
      obtain ⟨a, b, us, rfl, hq, q⟩ := src_of es s1 rv
      exact ⟨a, b, us, rfl, hq, p1.here s1 _ (wk_enum q)⟩
  | [], p1 => exact (show False from p1).elim
  | _ :: _ :: _, p1 => exact (show False from p1).elim
theorem di_zip {e e2 : Expr} {fa : SA} {p pos tpos : Pos} {elts : List Expr} {kk : Nat} (hm : X.mg "zip" = none) (ha : DA X W [e, e2] fa) (hg : Gl X "zip" := by rfl)
    (hs : starEach [e, e2] X.env = (false, eval e X.env) :: starEach [e2] X.env := by rfl) (hpl : (backTo pos (starEach [e2] X.env)).any (·.1) = false := by rfl) :
    DI X W (.Tuple elts kk tpos) (.Call (.Name "zip" p) [e, e2] [] pos) (iCall zipI fa) := by
  obtain ⟨t, q, r⟩ := ha
  refine ⟨_, pi_zipK hg hm q hs hpl, fun ρ σ L H S R er st p => r ρ σ L H S _ er st (p.step fun ds S1 L1 H1 e1 s1 p1 vs rs => ?_)⟩
  match ds, p1 with
  | [d, d'], p1 =>
    obtain ⟨v, u, rfl, rv, ru⟩ := rep2 rs
    replace p1 : Post (wd X W) W L1 H1 (fun its _ L' H' => ∀ J, Wk (wd X W) L' H' J its → R J H') (match srcOf S1 d, srcOf S1 d' with
      | some a, some b => .ok (zipD a.1 b.1, a.2 ++ b.2) S1
      | _, _ => .no) := p1
    cases es : srcOf S1 d with
    | none => simp only [es] at p1; exact (show False from p1).elim
    | some is =>
      cases es' : srcOf S1 d' with
      | none => simp only [es, es'] at p1; exact (show False from p1).elim
      | some js =>
        simp only [es, es'] at p1
        obtain ⟨a, b, us, rfl, hq, q⟩ := src_of es s1 rv
        obtain ⟨a', c, us', rfl, hq', q'⟩ := src_of es' s1 ru
        exact ⟨a, a', b, c, us, us', rfl, hq, hq', p1.here s1 _ (wk_zip q q')⟩
  | [], p1 => exact (show False from p1).elim
  | [_], p1 => exact (show False from p1).elim
  | _ :: _ :: _ :: _, p1 => exact (show False from p1).elim
end
end Ls
/-! LsH: cells that go out of sight, defs and their calls, slots forgotten, while. -/
namespace Ls
open PySem PySem.Spec PyProof.Rows L2
/-! ### data that know cells below n alone -/
mutual
def below (n : Nat) : D → Bool
  | .ref m => decide (m < n)
  | .dref m => decide (m < n)
  | .iref m => decide (m < n)
  | .tup xs => belowL n xs
  | .lst xs => belowL n xs
  | .err _ xs => belowL n xs
  | .stup xs => belowL n xs
  | .xtup xs => belowL n xs
  | _ => true
def belowL (n : Nat) : List D → Bool
  | [] => true
  | d :: r => below n d && belowL n r
end
@[simp] theorem below_int (n : Nat) (i : Int) : below n (.int i) = true := rfl
@[simp] theorem below_bl (n : Nat) (b : Bool) : below n (.bl b) = true := rfl
@[simp] theorem below_non (n : Nat) : below n .non = true := rfl
@[simp] theorem below_str (n : Nat) (x : Str) : below n (.str x) = true := rfl
@[simp] theorem below_emp (n : Nat) : below n .emp = true := rfl
@[simp] theorem below_tup (n : Nat) (xs : List D) : below n (.tup xs) = belowL n xs := by rw [below]
@[simp] theorem below_stup (n : Nat) (xs : List D) : below n (.stup xs) = belowL n xs := by rw [below]
@[simp] theorem below_xtup (n : Nat) (xs : List D) : below n (.xtup xs) = belowL n xs := by rw [below]
@[simp] theorem below_lst (n : Nat) (xs : List D) : below n (.lst xs) = belowL n xs := by rw [below]
@[simp] theorem below_err (n : Nat) (x : Str) (xs : List D) : below n (.err x xs) = belowL n xs := by rw [below]
@[simp] theorem below_ref (n m : Nat) : below n (.ref m) = decide (m < n) := by rw [below]
@[simp] theorem below_dref (n m : Nat) : below n (.dref m) = decide (m < n) := by rw [below]
@[simp] theorem below_iref (n m : Nat) : below n (.iref m) = decide (m < n) := by rw [below]
@[simp] theorem belowL_nil (n : Nat) : belowL n [] = true := rfl
@[simp] theorem belowL_cons (n : Nat) (d : D) (r : List D) : belowL n (d :: r) = (below n d && belowL n r) := by rw [belowL]
theorem belowL_iff {n : Nat} {xs : List D} : belowL n xs = true ↔ ∀ d, d ∈ xs → below n d = true := by
  induction xs with
  | nil => simp
  | cons x r ih => simp [ih]
@[simp] theorem belowL_append (n : Nat) (xs ys : List D) : belowL n (xs ++ ys) = (belowL n xs && belowL n ys) := by
  induction xs with
  | nil => simp
  | cons x r ih => simp [ih, Bool.and_assoc]
theorem belowL_map {α : Type} {n : Nat} {f : α → D} {xs : List α} (h : ∀ x, x ∈ xs → below n (f x) = true) : belowL n (xs.map f) = true :=
  belowL_iff.mpr fun d hd => by
    obtain ⟨x, hx, rfl⟩ := List.mem_map.mp hd
    exact h x hx
/-- the cells above n put out of sight -/
abbrev Ly.cut (L : Ly) (n : Nat) : Ly := ⟨L.c.take n, L.p⟩
theorem Ly.cut_not {L : Ly} {n : Nat} {a : Addr} (h : a ∉ L) : a ∉ L.cut n := fun z => by
  rcases z with z | z
  · exact h (.inl (List.mem_of_mem_take z))
  · exact h (.inr z)
section
variable {w : Wd} {L : Ly} {H : Hp}
theorem Rep.cut_ref {n m : Nat} {a : Addr} (h : L.c[m]? = some a) (hm : m < n) : (L.cut n).c[m]? = some a := by
  show (L.c.take n)[m]? = some a
  rw [List.getElem?_take_of_lt hm]
  exact h
/-- fewer cells in sight: the first n stay -/
structure Sub (n : Nat) (L L' : Ly) : Prop where
  mem : ∀ a, a ∈ L' → a ∈ L
  cel : ∀ m a, m < n → L.c[m]? = some a → L'.c[m]? = some a
theorem Sub.cut (n : Nat) (L : Ly) : Sub n L (L.cut n) := ⟨fun a z => by
    rcases z with z | z
    · exact .inl (List.mem_of_mem_take z)
    · exact .inr z, fun m a h e => Rep.cut_ref e h⟩
theorem OpqR.sub {n : Nat} {L' : Ly} (sb : Sub n L L') {v : V} : ∀ {k : Opq}, OpqR w L H v k → OpqR w L' H v k
  | .lam _ _ _ _, ⟨a, c, h1, h2, h3, h4, h5⟩ => ⟨a, c, h1, h2, h3, fun z => h4 (sb.mem _ z), fun z => h5 (sb.mem _ z)⟩
  | .exo _, ⟨a, C, h1, h2, h3, h4⟩ => ⟨a, C, h1, h2, h3, fun z => h4 (sb.mem _ z)⟩
  | .exm _ _ _, ⟨a, C, d, h1, h2, h3, h4, h5, h6⟩ => ⟨a, C, d, h1, h2, h3, h4, fun z => h5 (sb.mem _ z), fun z => h6 (sb.mem _ z)⟩
mutual
theorem Rep.sub {n : Nat} {L' : Ly} (sb : Sub n L L') : ∀ {v : V} {d : D}, Rep w L H v d → Ls.below n d = true → Rep w L' H v d
  | _, _, .non, _ => .non
  | _, _, .bl b, _ => .bl b
  | _, _, .int i, _ => .int i
  | _, _, .str x, _ => .str x
  | _, _, .tup h k r, b => .tup h (fun z => k (sb.mem _ z)) (RepL.sub sb r (by simpa using b))
  | _, _, .lst h k r, b => .lst h (fun z => k (sb.mem _ z)) (RepL.sub sb r (by simpa using b))
  | _, _, .stup h c k r, b => .stup h c (fun z => k (sb.mem _ z)) (RepL.sub sb r (by simpa using b))
  | _, _, .xtup h k r, b => .xtup h (fun z => k (sb.mem _ z)) (RepL.sub sb r (by simpa using b))
  | _, _, .emp h k, _ => .emp h (fun z => k (sb.mem _ z))
  | _, _, .scr h, _ => .scr (by
    rcases h with ⟨q, k⟩ | q
    · exact .inl ⟨q, fun z => k (sb.mem _ z)⟩
    · exact .inr q)
  | _, _, .ref h k, b => .ref (sb.cel _ _ (by simpa using b) h) k
  | _, _, .dref h k, b => .dref (sb.cel _ _ (by simpa using b) h) k
  | _, _, .iref h k, b => .iref (sb.cel _ _ (by simpa using b) h) k
  | _, _, .gl h, _ => .gl h
  | _, _, .ty n, _ => .ty n
  | _, _, .opq h, _ => .opq (h.sub sb)
  | _, _, .err0 h m, _ => .err0 h m
  | _, _, .err2 h m hd k r s, b => by
    simp only [below_err, belowL_cons, belowL_nil, Bool.and_true, Bool.and_eq_true] at b
    exact .err2 h m hd (fun z => k (sb.mem _ z)) (Rep.sub sb r b.1) (Rep.sub sb s b.2)
theorem RepL.sub {n : Nat} {L' : Ly} (sb : Sub n L L') : ∀ {vs : List V} {ds : List D}, RepL w L H vs ds → belowL n ds = true → RepL w L' H vs ds
  | _, _, .nil, _ => .nil
  | _ :: _, d :: ds, .cons h t, b => by
    have b' : (Ls.below n d && belowL n ds) = true := by simpa using b
    have b2 := Bool.and_eq_true_iff.mp b'
    exact .cons (Rep.sub sb h b2.1) (RepL.sub sb t b2.2)
end
theorem Rep.cut {n : Nat} {v : V} {d : D} (r : Rep w L H v d) (b : Ls.below n d = true) : Rep w (L.cut n) H v d := r.sub (.cut n L) b
theorem RepL.cut {n : Nat} {vs : List V} {ds : List D} (r : RepL w L H vs ds) (b : belowL n ds = true) : RepL w (L.cut n) H vs ds := r.sub (.cut n L) b
mutual
/-- data that are known at L know cells of L alone -/
theorem Rep.blw : ∀ {v : V} {d : D}, Rep w L H v d → Ls.below L.c.length d = true
  | _, _, .non => rfl
  | _, _, .bl b => rfl
  | _, _, .int i => rfl
  | _, _, .str x => rfl
  | _, _, .tup h k r => by simpa using RepL.blw r
  | _, _, .lst h k r => by simpa using RepL.blw r
  | _, _, .stup h c k r => by simpa using RepL.blw r
  | _, _, .xtup h k r => by simpa using RepL.blw r
  | _, _, .emp h k => rfl
  | _, _, .scr h => by simp [Ls.below]
  | _, _, .ref h _ => by simpa using (List.getElem?_eq_some_iff.mp h).1
  | _, _, .dref h _ => by simpa using (List.getElem?_eq_some_iff.mp h).1
  | _, _, .iref h _ => by simpa using (List.getElem?_eq_some_iff.mp h).1
  | _, _, .gl h => by simp [Ls.below]
  | _, _, .ty n => by simp [Ls.below]
  | _, _, .opq _ => by simp [Ls.below]
  | _, _, .err0 _ _ => by simp
  | _, _, .err2 _ _ _ _ r s => by simp [Rep.blw r, Rep.blw s]
theorem RepL.blw : ∀ {vs : List V} {ds : List D}, RepL w L H vs ds → belowL L.c.length ds = true
  | _, _, .nil => rfl
  | _, _, .cons h t => by simp [Rep.blw h, RepL.blw t]
end
end
def belowO (n : Nat) (o : Ob) : Bool := belowL n o.parts
/-- S1 is S but for cells that know nothing above, and cells above -/
def Kept (S S1 : Store) : Prop := S.length ≤ S1.length ∧ ∀ m o, m < S.length → S1[m]? = some o → S[m]? = some o ∨ belowO S.length o = true
theorem Kept.refl (S : Store) : Kept S S := ⟨Nat.le_refl _, fun _ _ _ h => .inl h⟩
theorem Kept.app (S N : Store) : Kept S (S ++ N) := ⟨by simp, fun m o h e => by
  rw [List.getElem?_append_left h] at e
  exact .inl e⟩
theorem Kept.setApp (S N : Store) (k : Nat) (xs : List D) (h : belowL S.length xs = true) : Kept S (S.set k (.lst xs) ++ N) := ⟨by simp, fun m o hm e => by
  rw [List.getElem?_append_left (by simpa using hm)] at e
  by_cases hk : k = m
  · subst hk
    rw [List.getElem?_set_self hm] at e
    cases e
    exact .inr h
  · rw [List.getElem?_set_ne hk] at e
    exact .inl e⟩
theorem Kept.set (S : Store) (k : Nat) (xs : List D) (h : belowL S.length xs = true) : Kept S (S.set k (.lst xs)) := by
  have := Kept.setApp S [] k xs h
  simpa using this
section
variable {w : Wd} {L L1 : Ly} {H H1 : Hp} {S S1 : Store}
theorem Ex.cut (e : Ex L H L1 H1) : L1.cut L.c.length = L := by
  obtain ⟨N, q⟩ := e.pre
  have q2 := e.prv
  cases L1
  cases L
  simp only at q q2
  subst q q2
  simp [Ly.cut]
theorem Ex.cutEx (e : Ex L H L1 H1) : Ex L H L H1 := by
  refine ⟨⟨[], by simp⟩, rfl, fun b o h t n => ⟨(e.keep b o h t n).1, n⟩, e.still, e.knd⟩
theorem Sto.bl (s : Sto w L H S) (e : Ex L H L1 H1) (k : Kept S S1) {m : Nat} {o : Ob} {a : Addr} (h2 : L.c[m]? = some a) (h1 : S1[m]? = some o) : belowO S.length o = true := by
  have hm : m < S.length := by rw [← s.len]; exact (List.getElem?_eq_some_iff.mp h2).1
  rcases k.2 m o hm h1 with z | z
  · have ob0 := s.ob m o a z h2
    obtain ⟨vs, _, r⟩ := ob0
    have := r.blw
    rw [s.len] at this
    exact this
  · exact z
theorem Sto.cut (s : Sto w L H S) (e : Ex L H L1 H1) (s1 : Sto w L1 H1 S1) (k : Kept S S1) : Sto w L H1 (S1.take S.length) := by
  have ec := e.cut
  rw [s.len] at ec
  refine ⟨?_, s.nd, fun m o a h1 h2 => ?_, fun a ha => s1.pr a (by rw [e.prv]; exact ha), s.ap, s1.tab⟩
  · rw [List.length_take, s.len, Nat.min_eq_left k.1]
  · have hm : m < S.length := by rw [← s.len]; exact (List.getElem?_eq_some_iff.mp h2).1
    rw [List.getElem?_take_of_lt hm] at h1
    have h3 : L1.c[m]? = some a := e.at h2
    have ob := s1.ob m o a h1 h3
    have bl := s.bl e k h2 h1
    obtain ⟨vs, hv, r⟩ := ob
    have := r.cut (n := S.length) bl
    rw [ec] at this
    exact ⟨vs, hv, this⟩
/-- .. one of the new cells stays -/
theorem Sto.cutO {m : Nat} {o1 : Ob} {a : Addr} (s : Sto w L H S) (e : Ex L H L1 H1) (s1 : Sto w L1 H1 S1) (k : Kept S S1) (h : L1.c[m]? = some a) (hm : S.length ≤ m) (hc : S1[m]? = some o1) (hb : belowO S.length o1 = true) :
    Ex L H (L.add a) H1 ∧ Sto w (L.add a) H1 (S1.take S.length ++ [o1]) := by
  obtain ⟨N, q⟩ := e.pre
  have hal1 : a ∈ L1 := .inl (List.mem_of_getElem? h)
  have hac : a ∉ L.c := fun z => by
    obtain ⟨i, hi⟩ := List.mem_iff_getElem?.mp z
    have h1 := nodup_at s1.nd (e.at hi) h
    have h2 := (List.getElem?_eq_some_iff.mp hi).1
    rw [s.len] at h2
    omega
  have hap : a ∉ L.p := fun z => s1.ap a (List.mem_of_getElem? h) (by rw [e.prv]; exact z)
  have sb : Sub S.length L1 (L.add a) := by
    refine ⟨fun b z => ?_, fun i b hi hb' => ?_⟩
    · rcases z with z | z
      · rcases List.mem_append.mp z with z | z
        · exact .inl (by rw [q]; exact List.mem_append_left _ z)
        · rw [List.mem_singleton.mp z]; exact hal1
      · exact .inr (by rw [e.prv]; exact z)
    · rw [q, List.getElem?_append_left (by rw [s.len]; exact hi)] at hb'
      show (L.c ++ [a])[i]? = some b
      rw [List.getElem?_append_left (by rw [s.len]; exact hi)]
      exact hb'
  obtain ⟨vs, hv, r⟩ := s1.ob m o1 a hc h
  have hl : (S1.take S.length).length = S.length := by rw [List.length_take, Nat.min_eq_left k.1]
  refine ⟨⟨⟨[a], rfl⟩, rfl, fun b o hb' t n => ⟨(e.keep b o hb' t n).1, fun z => ?_⟩, e.still, e.knd⟩, ⟨by simp [s.len, Nat.min_eq_left k.1], ?_, fun i o b h1 h2 => ?_, fun b hb' => s1.pr b (by rw [e.prv]; exact hb'), fun b hb' hp => ?_, s1.tab⟩⟩
  · exact (e.keep b o hb' t n).2 (sb.mem b z)
  · show (L.c ++ [a]).Nodup
    rw [List.nodup_append]
    exact ⟨s.nd, by simp, fun b hb' c hc' => by rw [List.mem_singleton.mp hc']; exact fun z => hac (z ▸ hb')⟩
  · replace h2 : (L.c ++ [a])[i]? = some b := h2
    by_cases hi : i < S.length
    · rw [List.getElem?_append_left (by rw [hl]; exact hi), List.getElem?_take_of_lt hi] at h1
      rw [List.getElem?_append_left (by rw [s.len]; exact hi)] at h2
      have ob := s1.ob i o b h1 (e.at h2)
      have bl := s.bl e k h2 h1
      obtain ⟨us, hu, r'⟩ := ob
      exact ⟨us, hu, r'.sub sb bl⟩
    · rw [List.getElem?_append_right (by rw [hl]; omega), hl] at h1
      rw [List.getElem?_append_right (by rw [s.len]; omega), s.len] at h2
      have e0 : i - S.length = 0 := by
        have := (List.getElem?_eq_some_iff.mp h1).1
        simp at this
        omega
      rw [e0] at h1 h2
      simp at h1 h2
      subst h1 h2
      exact ⟨vs, hv, r.sub sb hb⟩
  · rcases List.mem_append.mp hb' with z | z
    · exact s.ap b z hp
    · rw [List.mem_singleton.mp z] at hp
      exact hap hp
theorem cell_is {S : Store} {m : Nat} {xs : List D} (h : cell S m = some xs) : S[m]? = some (.lst xs) := by
  unfold cell at h
  cases e : S[m]? with
  | none => rw [e] at h; cases h
  | some o =>
    rw [e] at h
    cases o with
    | lst ys => cases h; rfl
    | _ => cases h
theorem Sto.cutC {m : Nat} {xs : List D} {a : Addr} (s : Sto w L H S) (e : Ex L H L1 H1) (s1 : Sto w L1 H1 S1) (k : Kept S S1) (h : L1.c[m]? = some a) (hm : S.length ≤ m) (hc : cell S1 m = some xs) (hb : belowL S.length xs = true) :
    Ex L H (L.add a) H1 ∧ Sto w (L.add a) H1 (S1.take S.length ++ [.lst xs]) := s.cutO e s1 k h hm (cell_is hc) hb
end
/-- a value as it is when the cells from n on go out of sight: a list of these is a list that nobody writes -/
def frz1 (n : Nat) (S : Store) (d : D) : Option D := match d with
  | .ref m => if m < n then some (.ref m) else match cell S m with
    | some xs => if belowL n xs = true then some (.lst xs) else none
    | none => none
  | d => if below n d = true then some d else none
def frzL (n : Nat) (S : Store) : List D → Option (List D)
  | [] => some []
  | d :: r => match frz1 n S d, frzL n S r with
    | some x, some xs => some (x :: xs)
    | _, _ => none
def frz (n : Nat) (S : Store) (d : D) : Option D := match d with
  | .tup xs => if belowL n xs = true then some (.tup xs) else (frzL n S xs).map .tup
  | d => frz1 n S d
section
variable {w : Wd} {L : Ly} {H : Hp} {S : Store} {n : Nat}
theorem frz1_ok {d d' : D} {v : V} (s : Sto w L H S) (r : Rep w L H v d) (e : frz1 n S d = some d') : Rep w (L.cut n) H v d' := by
  cases r with
  | @dref a m h k =>
    replace e : (if Ls.below n (.dref m) = true then some (D.dref m) else none) = some d' := e
    by_cases hb : Ls.below n (.dref m) = true
    · rw [if_pos hb] at e
      cases e
      exact (Rep.dref h k).cut hb
    · rw [if_neg hb] at e
      cases e
  | @iref a m h k =>
    replace e : (if Ls.below n (.iref m) = true then some (D.iref m) else none) = some d' := e
    by_cases hb : Ls.below n (.iref m) = true
    · rw [if_pos hb] at e
      cases e
      exact (Rep.iref h k).cut hb
    · rw [if_neg hb] at e
      cases e
  | @ref a m h k =>
    replace e : (if m < n then some (D.ref m) else match cell S m with
      | some xs => if belowL n xs = true then some (.lst xs) else none
      | none => none) = some d' := e
    by_cases hm : m < n
    · rw [if_pos hm] at e
      cases e
      exact .ref (Rep.cut_ref h hm) k
    · rw [if_neg hm] at e
      cases ec : cell S m with
      | none => rw [ec] at e; cases e
      | some xs =>
        simp only [ec] at e
        by_cases hb : belowL n xs = true
        · rw [if_pos hb] at e
          cases e
          obtain ⟨vs, hv, q⟩ := cell_ok ec s h
          refine .lst hv (fun z => ?_) (q.cut hb)
          rcases z with z | z
          · obtain ⟨i, hi⟩ := List.mem_iff_getElem?.mp z
            have hi2 : i < n := by
              have := (List.getElem?_eq_some_iff.mp hi).1
              simp at this
              omega
            rw [List.getElem?_take_of_lt hi2] at hi
            have := nodup_at s.nd hi h
            omega
          · exact s.ap a (List.mem_of_getElem? h) z
        · rw [if_neg hb] at e
          cases e
  | non => cases e; exact .non
  | bl b => cases e; exact .bl b
  | int i => cases e; exact .int i
  | str x => cases e; exact .str x
  | ty t => cases e; exact .ty t
  | gl h => cases e; exact .gl h
  | err0 h m => cases e; exact .err0 h m
  | @err2 a C d x u v y z h m hd k r s =>
    replace e : (if Ls.below n (.err x [y, z]) = true then some (D.err x [y, z]) else none) = some d' := e
    by_cases hb : Ls.below n (.err x [y, z]) = true
    · rw [if_pos hb] at e
      cases e
      exact (Rep.err2 h m hd k r s).cut hb
    · rw [if_neg hb] at e
      cases e
  | emp h k => cases e; exact .emp h (Ly.cut_not k)
  | scr h =>
    cases e
    refine .scr ?_
    rcases h with ⟨q, k⟩ | q
    · exact .inl ⟨q, Ly.cut_not k⟩
    · exact .inr q
  | @tup a vs ds h k r =>
    replace e : (if Ls.below n (.tup ds) = true then some (D.tup ds) else none) = some d' := e
    by_cases hb : Ls.below n (.tup ds) = true
    · rw [if_pos hb] at e
      cases e
      exact (Rep.tup h k r).cut hb
    · rw [if_neg hb] at e
      cases e
  | @opq v k h =>
    replace e : (if Ls.below n (.opq k) = true then some (D.opq k) else none) = some d' := e
    by_cases hb : Ls.below n (.opq k) = true
    · rw [if_pos hb] at e
      cases e
      exact (Rep.opq h).cut hb
    · rw [if_neg hb] at e
      cases e
  | @stup a o vs ds h c k r =>
    replace e : (if Ls.below n (.stup ds) = true then some (D.stup ds) else none) = some d' := e
    by_cases hb : Ls.below n (.stup ds) = true
    · rw [if_pos hb] at e
      cases e
      exact (Rep.stup h c k r).cut hb
    · rw [if_neg hb] at e
      cases e
  | @xtup a vs ds h k r =>
    replace e : (if Ls.below n (.xtup ds) = true then some (D.xtup ds) else none) = some d' := e
    by_cases hb : Ls.below n (.xtup ds) = true
    · rw [if_pos hb] at e
      cases e
      exact (Rep.xtup h k r).cut hb
    · rw [if_neg hb] at e
      cases e
  | @lst a vs ds h k r =>
    replace e : (if Ls.below n (.lst ds) = true then some (D.lst ds) else none) = some d' := e
    by_cases hb : Ls.below n (.lst ds) = true
    · rw [if_pos hb] at e
      cases e
      exact (Rep.lst h k r).cut hb
    · rw [if_neg hb] at e
      cases e
theorem frzL_ok : ∀ {ds ds' : List D} {vs : List V} (s : Sto w L H S) (r : RepL w L H vs ds) (e : frzL n S ds = some ds'), RepL w (L.cut n) H vs ds'
  | [], ds', vs, s, r, e => by
    cases r
    cases e
    exact .nil
  | d :: ds, ds', vs, s, r, e => by
    cases r with
    | cons h t =>
      unfold frzL at e
      cases e1 : frz1 n S d with
      | none => simp only [e1] at e; cases e
      | some x =>
        cases e2 : frzL n S ds with
        | none => simp only [e1, e2] at e; cases e
        | some xs =>
          simp only [e1, e2] at e
          cases e
          exact .cons (frz1_ok s h e1) (frzL_ok s t e2)
theorem frz_ok {d d' : D} {v : V} (s : Sto w L H S) (r : Rep w L H v d) (e : frz n S d = some d') : Rep w (L.cut n) H v d' := by
  cases r with
  | @tup a vs ds h k r =>
    replace e : (if belowL n ds = true then some (D.tup ds) else (frzL n S ds).map .tup) = some d' := e
    by_cases hb : belowL n ds = true
    · rw [if_pos hb] at e
      cases e
      exact (Rep.tup h k r).cut (by simpa using hb)
    · rw [if_neg hb] at e
      obtain ⟨xs, e1, rfl⟩ := Option.map_eq_some_iff.mp e
      exact .tup h (Ly.cut_not k) (frzL_ok s r e1)
  | non => exact frz1_ok s .non e
  | bl b => exact frz1_ok s (.bl b) e
  | int i => exact frz1_ok s (.int i) e
  | str x => exact frz1_ok s (.str x) e
  | ty t => exact frz1_ok s (.ty t) e
  | gl h => exact frz1_ok s (.gl h) e
  | emp h k => exact frz1_ok s (.emp h k) e
  | scr h => exact frz1_ok s (.scr h) e
  | lst h k r => exact frz1_ok s (.lst h k r) e
  | err0 h m => exact frz1_ok s (.err0 h m) e
  | err2 h m hd k r s' => exact frz1_ok s (.err2 h m hd k r s') e
  | ref h k => exact frz1_ok s (.ref h k) e
  | dref h k => exact frz1_ok s (.dref h k) e
  | stup h c k r => exact frz1_ok s (.stup h c k r) e
  | opq h => exact frz1_ok s (.opq h) e
  | xtup h k r => exact frz1_ok s (.xtup h k r) e
  | iref h k => exact frz1_ok s (.iref h k) e
end
/-! ### what a def's body leaves -/
open Classical in
/-- back from a call that began at S: its own cells go out of sight -/
noncomputable def leave (S : Store) (d : D) (S1 : Store) : Res D :=
  if S1.length = S.length then .ok d S1 else if Kept S S1 then (match frz S.length S1 d with
    | some d' => .ok d' (S1.take S.length)
    | none => .no) else .no
open Classical in
/-- .. the list that is handed back stays a cell, the only new one -/
noncomputable def leaveC (S : Store) (d : D) (S1 : Store) : Res D := match d with
  | .ref m => if m < S.length then .no else (match cell S1 m with
    | some xs => if Kept S S1 ∧ belowL S.length xs = true then .ok (.ref S.length) (S1.take S.length ++ [.lst xs]) else .no
    | none => .no)
  | _ => .no
open Classical in
noncomputable def leaveX (S : Store) (x : Str) (fs : List D) (S1 : Store) : Res D :=
  if S1.length = S.length then .exc x fs S1 else if Kept S S1 ∧ belowL S.length fs = true then .exc x fs (S1.take S.length) else .no
/-- how a body's end is taken -/
noncomputable def endOf (lv : Store → D → Store → Res D) (S : Store) : Res Fl → Res D
  | .ok (.rt d) S1 => lv S d S1
  | .ok (.nx _) S1 => lv S .non S1
  | .ok _ _ => .no
  | .exc x fs S1 => leaveX S x fs S1
  | .no => .no
def startD (m : Nat) (ds : List D) : Rho := ds.map some ++ List.replicate (m - ds.length) none
/-- a def of n parameters and m names -/
noncomputable def fnD (n m : Nat) (lv : Store → D → Store → Res D) (body : SS) : List D → Store → Res D := fun ds S =>
  if ds.length = n then endOf lv S (body (startD m ds) S) else .no
def ArF (n : Nat) (F : List D → Store → Res D) : Prop := ∀ ds S, ds.length ≠ n → F ds S = .no
theorem fnD_ar {n m : Nat} {lv : Store → D → Store → Res D} {body : SS} : ArF n (fnD n m lv body) := fun ds S h => if_neg h
/-- lv may be used at a def's end -/
def LvOk (lv : Store → D → Store → Res D) : Prop := ∀ (w : Wd) (W : XW) (L L1 : Ly) (H H1 : Hp) (S S1 : Store) (d : D) (v : V) (Q : VK), Sto w L H S → Ex L H L1 H1 → Sto w L1 H1 S1 → Rep w L1 H1 v d → Post w W L H (QV w Q) (lv S d S1) → Q v H1
theorem leave_ok : LvOk leave := by
  intro w W L L1 H H1 S S1 d v Q s e s1 r p
  unfold leave at p
  by_cases hl : S1.length = S.length
  · rw [if_pos hl] at p
    exact p.there e s1 v r
  · rw [if_neg hl] at p
    by_cases hk : Kept S S1
    · rw [if_pos hk] at p
      cases ef : frz S.length S1 d with
      | none => simp only [ef] at p; exact (show False from p).elim
      | some d' =>
        simp only [ef] at p
        have r' := frz_ok s1 r ef
        rw [← s.len, e.cut] at r'
        exact p.there e.cutEx (s.cut e s1 hk) v r'
    · rw [if_neg hk] at p
      exact p.elim
open Classical in
theorem leaveC_ok : LvOk leaveC := by
  intro w W L L1 H H1 S S1 d v Q s e s1 r p
  cases r with
  | @ref a m h k =>
    replace p : Post w W L H (QV w Q) (if m < S.length then .no else (match cell S1 m with
      | some xs => if Kept S S1 ∧ belowL S.length xs = true then .ok (.ref S.length) (S1.take S.length ++ [.lst xs]) else .no
      | none => .no)) := p
    by_cases hm : m < S.length
    · rw [if_pos hm] at p; exact p.elim
    · rw [if_neg hm] at p
      cases ec : cell S1 m with
      | none => simp only [ec] at p; exact (show False from p).elim
      | some xs =>
        simp only [ec] at p
        by_cases hk : Kept S S1 ∧ belowL S.length xs = true
        · rw [if_pos hk] at p
          obtain ⟨ex, st⟩ := s.cutC e s1 hk.1 h (Nat.le_of_not_lt hm) ec hk.2
          refine p.there ex st _ (.ref ?_ k)
          show (L.c ++ [a])[S.length]? = some a
          rw [← s.len, List.getElem?_append_right (Nat.le_refl _), Nat.sub_self]
          rfl
        · rw [if_neg hk] at p
          exact p.elim
  | _ => exact (show False from p).elim
/-! ### defs -/
def XW.wish (W : XW) : XK := match W.E with
  | none => fun _ _ _ => False
  | some E => E
theorem Post.wish {α : Type} {w : Wd} {W : XW} {L : Ly} {H : Hp} {R : α → Store → Ly → Hp → Prop} {r : Res α} (p : Post w W L H R r) : Post w ⟨W.T, some W.wish, W.er⟩ L H R r := by
  cases r with
  | ok a S => exact p
  | no => exact p
  | exc x fs S =>
    cases W with | mk T E er => cases E with
    | none => exact (show False from p).elim
    | some E => exact p
/-- room, and nothing is being shown around -/
structure RmQ (b : Bool) (k : Nat) (A : Around) : Prop where
  rm : Room k A
  gd : b = true → A.guards = some []
abbrev RmG := RmQ true
theorem RmQ.mono {b : Bool} {j k : Nat} {A : Around} (r : RmQ b k A) (h : j ≤ k) : RmQ b j A := ⟨r.rm.mono h, r.gd⟩
theorem RmQ.units {b : Bool} {k : Nat} {A : Around} (r : RmQ b k A) : A.units + 64 < cLine := r.rm.units
theorem RmQ.units0 {b : Bool} {k : Nat} {A : Around} (r : RmQ b k A) : A.units < cLine := r.rm.units0
theorem RmQ.units65 {b : Bool} {k : Nat} {A : Around} (r : RmQ b k A) : A.units + 65 < cLine := by have := r.rm.un; omega
theorem RmQ.low {b : Bool} {k : Nat} {A : Around} (r : RmQ b k A) : RmQ false k A := ⟨r.rm, fun z => Bool.noConfusion z⟩
/-- a def keeps its promise where nothing is being shown around -/
structure FnQ (b : Bool) (P : Program) (w : World) (K : PySem.W.Frag) (mg : Str → Option Value) (base : Heap) (CX : CXT) (k : Nat) (f : Addr) (fd : FuncData) (ps : List Str) (sp : Sp) : Prop where
  len : ∀ vs H Q E, sp vs H Q E → vs.length = ps.length
  go : ∀ (A : Around) (outer : List Env) (s : Shared) (H : Hp) (args : Args) (us : List Value) (vs : List V) (Q : VK) (E : XK), RmQ b k A → Env0 P w K mg base A outer s H → BindsTo s fd args (ps.zip us) → Vals vs us → sp vs H Q E →
    codeAny (model P w) A (.call (.ref f) args) (CR CX outer P w H s Q E) s
abbrev FnG := FnQ true
theorem FnQ.up {b : Bool} {P : Program} {w : World} {K : PySem.W.Frag} {mg : Str → Option Value} {base : Heap} {CX : CXT} {k : Nat} {f : Addr} {fd : FuncData} {ps : List Str} {sp : Sp} (F : FnQ false P w K mg base CX k f fd ps sp) : FnQ b P w K mg base CX k f fd ps sp :=
  ⟨F.len, fun A outer s H args us vs Q E hr => F.go A outer s H args us vs Q E hr.low⟩
/-- a def's promise by its function of data -/
def spF (w : Wd) (n : Nat) (F : List D → Store → Res D) : Sp := fun vs H Q E => vs.length = n ∧ ∃ ds L S, RepL w L H vs ds ∧ Sto w L H S ∧ Post w ⟨w.T, some E, w.er⟩ L H (QV w Q) (F ds S)
theorem start_env {w : Wd} {L : Ly} {H : Hp} {N : List Str} {vs : List V} {ds : List D} (r : RepL w L H vs ds) : EnvR w L H (startD N.length ds) (L2.start N vs) := by
  refine ⟨by simp [startD, L2.start, r.len], fun i d h => ?_⟩
  unfold startD at h
  have hl := r.len
  by_cases hi : i < ds.length
  · rw [List.getElem?_append_left (by simpa using hi), List.getElem?_map] at h
    obtain ⟨d', h1, h2⟩ := Option.map_eq_some_iff.mp h
    cases h2
    obtain ⟨v, hv, rv⟩ := r.get h1
    refine ⟨v, ?_, rv⟩
    unfold L2.start
    rw [List.getElem?_append_left (by simp; omega), List.getElem?_map, hv]
    rfl
  · rw [List.getElem?_append_right (by simpa using Nat.le_of_not_lt hi)] at h
    have := List.mem_of_getElem? h
    rw [List.mem_replicate] at this
    cases this.2
section
variable {P : Program} {w : World} {K : PySem.W.Frag} {mg : Str → Option Value} {base : Heap} {T : Tb}
theorem fnD_post {N ps : List Str} {lv : Store → D → Store → Res D} {body : SS} {vs : List V} {ds : List D} {L : Ly} {H : Hp} {S : Store} {Q : VK} {E : XK} (hlv : LvOk lv) (hl : vs.length = ps.length) (r : RepL ⟨K, mg, T, none⟩ L H vs ds) (sto : Sto ⟨K, mg, T, none⟩ L H S) (p : Post ⟨K, mg, T, none⟩ ⟨T, some E, none⟩ L H (QV ⟨K, mg, T, none⟩ Q) (fnD ps.length N.length lv body ds S)) :
    Post ⟨K, mg, T, none⟩ ⟨T, some E, none⟩ L H (QS ⟨K, mg, T, none⟩ { nx := fun _ H' => Q .non H', rt := Q }) (body (startD N.length ds) S) := by
  unfold fnD at p
  rw [if_pos (by rw [← r.len]; exact hl)] at p
  cases eb : body (startD N.length ds) S with
  | no => rw [eb] at p; exact (show False from p).elim
  | exc y fs S1 =>
    rw [eb] at p
    replace p : Post ⟨K, mg, T, none⟩ ⟨T, some E, none⟩ L H (QV ⟨K, mg, T, none⟩ Q) (leaveX S y fs S1) := p
    unfold leaveX at p
    intro L1 H1 C od e1 s1 hC hX
    by_cases h1 : S1.length = S.length
    · rw [if_pos h1] at p
      exact p L1 H1 C od e1 s1 hC hX
    · rw [if_neg h1] at p
      by_cases h2 : Kept S S1 ∧ belowL S.length fs = true
      · rw [if_pos h2] at p
        refine p L H1 C od e1.cutEx (sto.cut e1 s1 h2.1) hC ?_
        have ec := e1.cut
        rw [sto.len] at ec
        match fs, hX, h2.2 with
        | [], hX, _ => exact hX
        | [a, b], ⟨d, va, vb, h3, h4, hn4, h5, h6⟩, hb =>
          simp only [belowL_cons, belowL_nil, Bool.and_true, Bool.and_eq_true] at hb
          have g5 := h5.cut hb.1
          have g6 := h6.cut hb.2
          rw [ec] at g5 g6
          exact ⟨d, va, vb, h3, h4, by have := Ly.cut_not (n := S.length) hn4; rw [ec] at this; exact this, g5, g6⟩
        | [_], hX, _ => exact hX.elim
        | _ :: _ :: _ :: _, hX, _ => exact hX.elim
      · rw [if_neg h2] at p
        exact (show False from p).elim
  | ok fl S1 =>
    rw [eb] at p
    intro L1 H1 e1 s1
    cases fl with
    | rt d => exact fun v rv => hlv _ _ L L1 H H1 S S1 d v Q sto e1 s1 rv p
    | nx ρ => exact fun σ _ => hlv _ _ L L1 H H1 S S1 .non .non Q sto e1 s1 .non p
    | bk ρ => exact (show False from p).elim
    | ct ρ => exact (show False from p).elim
theorem fnD_ok {b : Bool} {x qual : Str} {st : Stmt} {f : Addr} {fd : FuncData} {N ps : List Str} {k : Nat} {lv : Store → D → Store → Res D} {body : SS} (hlv : LvOk lv) (Fn : Fun K x qual st f fd) (Sc : FnScope N ps (defScope st))
    (hbody : ∀ (cdv : Value) (A : Around) (outer : List Env) (s : Shared) (H : Hp) (E : XK), RmQ b k (A.deeper (envOfC qual (defScope st) s.heap.objs.size f cdv)) →
      DSs (cxOf (L2.CX P w) P w K mg base N qual (defScope st) f cdv A outer s H E) ⟨T, some E, none⟩ (defBody st) body) :
    FnQ b P w K mg base (L2.CX P w) (k + 1) f fd ps (spF ⟨K, mg, T, none⟩ ps.length (fnD ps.length N.length lv body)) := by
  refine ⟨fun vs H Q E h => h.1, fun A outer s H args us vs Q E hrg e0 hbd rvs h => ?_⟩
  obtain ⟨oc, od, kV, doc, pm, an, cdv, ct, osl, rfl, lk, hcd⟩ := Fn.ex
  obtain ⟨hl, ds, L, S, r, sto, p⟩ := h
  refine LamX.run_ofS lk hcd Sc hrg.rm e0 hbd rvs hl fun hr => ?_
  obtain ⟨t, pt, rt⟩ := hbody cdv A outer s H E ⟨hr, hrg.gd⟩
  refine ⟨t, pt, rt (startD N.length ds) _ L H S _ (start_env r) sto ?_⟩
  exact fnD_post hlv hl r sto p
end
section
variable {X : Cx} {W : XW}
theorem run_G {b : Bool} {CX : CXT} {k : Nat} {f : Addr} {fd : FuncData} {ps : List Str} {sp : Sp} {E : XK} {pins : List (Addr × Obj)} {σ : L2.St} {H : Hp} {s : Shared} {Q : VK} {us : List Value} {vs : List V} (F : FnQ b X.prog X.w X.K X.mg X.base CX k f fd ps sp) (hr : RmQ b k X.A) (hb : Binds X.K fd ps []) (hx : Passes CX X E)
    (I : Inv X pins σ H s) (r : Vals vs us) (h : sp vs H Q E) : wpAny (model X.prog X.w) X.A (call (.ref f) us) (EP X pins σ Q) X.xe s := by
  have hl : (us ++ []).length = ps.length := by
    rw [List.append_nil, ← r.length]
    exact F.len _ _ _ _ h
  have bb := hb s us I.kIn hl
  rw [List.append_nil] at bb
  refine wpAny_call (codeAny_mono (F.go X.A X.stack s H ⟨us, []⟩ us vs Q E hr I.env0 bb r h) fun z s' hq => ?_)
  match z, hq with
  | .error e, hq => exact hx pins σ H s e s' I hq
  | .ok (.ret u), hq => exact I.after hq
/-- f(e, ..) of a def of the module -/
theorem de_call {b : Bool} {x : Str} {f : Addr} {fd : FuncData} {ps : List Str} {k : Nat} {F : List D → Store → Res D} {e : Expr} {es : List Expr} {fa : SA} {p pos : Pos} (G : FnQ b X.prog X.w X.K X.mg X.base (L2.CX X.prog X.w) k f fd ps (spF (wd X W) ps.length F)) (hr : RmQ b k X.A)
    (tk : Takes X fun cls d _ H => W.wish cls d H) (hm : X.mg x = some (.ref f)) (hk : PySem.W.keepIn X.K (.ref f) = true) (hb : Binds X.K fd ps []) (ha : DA X W (e :: es) fa) (hF : ArF ps.length F := by exact fnD_ar) (hg : Gl X x := by rfl)
    (hdb : (x == ("__debug__" : Str)) = false := by decide) (he : starEach (e :: es) X.env = (false, eval e X.env) :: starEach es X.env := by rfl) (hpl : (backTo pos (starEach es X.env)).any (·.1) = false := by rfl) :
    DE X W (.Call (.Name x p) (e :: es) [] pos) (eCB F fa) := by
  obtain ⟨t, q, r⟩ := ha
  refine ⟨fun σ H Q => t σ H fun vs H1 => spF (wd X W) ps.length F vs H1 Q W.wish, ⟨fun pins s σ H Q I h => ?_⟩, fun ρ σ L H S Q er st p => r ρ σ L H S _ er st (p.step fun ds S1 L1 H1 e1 s1 p1 vs rs => ?_)⟩
  · refine wpAny_Call_Name_kw (ld_glob I hg hm (PySem.W.callWith_K (h₀ := X.base) I.ok.mod.kin hk (thn (q.run pos pins s σ H _ I h) fun us s1 hh => ?_) he hpl) hdb)
    obtain ⟨vs, H1, I1, rv, hq⟩ := hh
    exact ⟨I1.kIn, run_G G hr hb (passes_call tk fun _ _ _ _ h => h) I1 rv hq⟩
  · by_cases hl : ds.length = ps.length
    · exact ⟨rs.len.trans hl, ds, L1, S1, rs, s1, p1.wish⟩
    · rw [hF ds S1 hl] at p1
      exact (show False from p1).elim
/-- f() -/
theorem de_call0 {b : Bool} {x : Str} {f : Addr} {fd : FuncData} {k : Nat} {F : List D → Store → Res D} {p pos : Pos} (G : FnQ b X.prog X.w X.K X.mg X.base (L2.CX X.prog X.w) k f fd [] (spF (wd X W) 0 F)) (hr : RmQ b k X.A)
    (tk : Takes X fun cls d _ H => W.wish cls d H) (hm : X.mg x = some (.ref f)) (hk : PySem.W.keepIn X.K (.ref f) = true) (hb : Binds X.K fd [] []) (hg : Gl X x := by rfl)
    (hdb : (x == ("__debug__" : Str)) = false := by decide) :
    DE X W (.Call (.Name x p) [] [] pos) (eCB F aNil) := by
  refine ⟨fun σ H Q => spF (wd X W) 0 F [] H Q W.wish, ⟨fun pins s σ H Q I h => ?_⟩, fun ρ σ L H S Q er st p => ?_⟩
  · exact wpAny_Call_Name_kw (ld_glob I hg hm (PySem.W.callWith_K0 I.kIn hk (run_G (us := []) G hr hb (passes_call tk fun _ _ _ _ h => h) I .nil h)) hdb)
  · exact ⟨rfl, [], L, S, .nil, st, (show Post (wd X W) W L H (QV (wd X W) Q) (F [] S) from p).wish⟩
theorem takesN {X : Cx} {T : Tb} {er : Option (Addr × Addr × Option Addr)} : Takes X fun cls d _ H => (XW.mk T none er).wish cls d H := fun _ _ x => by
  obtain ⟨_, _, _, _, _, _, _, _, _, _, _, _, _, _, _, _, z⟩ := x
  exact (show False from z).elim
/-! ### slots forgotten -/
theorem EnvR.forget {w : Wd} {L : Ly} {H : Hp} {ρ : Rho} {σ : L2.St} (r : EnvR w L H ρ σ) (is : List Nat) : EnvR w L H (wipeD ρ is) σ := by
  induction is with
  | nil => exact r
  | cons i is ih =>
    refine ⟨by simp [wipeD, ih.1], fun j d h => ?_⟩
    replace h : ((wipeD ρ is).set i none)[j]? = some (some d) := h
    by_cases hj : i = j
    · subst hj
      by_cases hl : i < (wipeD ρ is).length
      · rw [List.getElem?_set_self hl] at h
        cases h
      · rw [List.getElem?_eq_none (by simp; omega)] at h
        cases h
    · rw [List.getElem?_set_ne hj] at h
      exact ih.2 j d h
def Fl.wipe (is : List Nat) : Fl → Fl
  | .nx ρ => .nx (wipeD ρ is)
  | .rt d => .rt d
  | .bk ρ => .bk (wipeD ρ is)
  | .ct ρ => .ct (wipeD ρ is)
/-- slots that nothing behind asks are forgotten -/
def sWipe (is : List Nat) (f : SS) : SS := fun ρ S => (f ρ S).bind fun fl S1 => .ok (fl.wipe is) S1
theorem RS.wipe {w : Wd} {t : TS} {f : SS} (is : List Nat) (h : RS w W t f) : RS w W t (sWipe is f) := fun ρ σ L H S D er st p =>
  h ρ σ L H S D er st (p.step fun fl S1 L1 H1 e1 s1 p1 => by
    cases fl with
    | nx ρ1 => exact fun σ1 er1 => p1.here s1 σ1 (er1.forget is)
    | rt d => exact p1.here s1
    | bk ρ1 => exact fun σ1 er1 => p1.here s1 σ1 (er1.forget is)
    | ct ρ1 => exact fun σ1 er1 => p1.here s1 σ1 (er1.forget is))
theorem dss_wipe {b : List Stmt} {f : SS} (is : List Nat) (h : DSs X W b f) : DSs X W b (sWipe is f) := by
  obtain ⟨t, p, r⟩ := h
  exact ⟨t, p, r.wipe is⟩
theorem ds_wipe {b : Stmt} {f : SS} (is : List Nat) (h : DS X W b f) : DS X W b (sWipe is f) := by
  obtain ⟨t, p, r⟩ := h
  exact ⟨t, p, r.wipe is⟩
/-- .. ahead of a statement -/
def sPre (is : List Nat) (f : SS) : SS := fun ρ S => f (wipeD ρ is) S
theorem ds_pre {b : Stmt} {f : SS} (is : List Nat) (h : DS X W b f) : DS X W b (sPre is f) := by
  obtain ⟨t, p, r⟩ := h
  exact ⟨t, p, fun ρ σ L H S D er st p => r (wipeD ρ is) σ L H S D (er.forget is) st p⟩
/-! ### cells of a block that go out of sight -/
def frzE (n : Nat) (S : Store) : Rho → Option Rho
  | [] => some []
  | none :: r => (frzE n S r).map (none :: ·)
  | some d :: r => match frz n S d, frzE n S r with
    | some x, some xs => some (some x :: xs)
    | _, _ => none
theorem frzE_len {n : Nat} {S : Store} : ∀ {ρ ρ' : Rho}, frzE n S ρ = some ρ' → ρ'.length = ρ.length
  | [], ρ', e => by cases e; rfl
  | none :: r, ρ', e => by
    obtain ⟨x, e1, rfl⟩ := Option.map_eq_some_iff.mp e
    simp [frzE_len e1]
  | some d :: r, ρ', e => by
    unfold frzE at e
    cases e1 : frz n S d with
    | none => simp only [e1] at e; cases e
    | some x =>
      cases e2 : frzE n S r with
      | none => simp only [e1, e2] at e; cases e
      | some xs =>
        simp only [e1, e2] at e
        cases e
        simp [frzE_len e2]
theorem frzE_get {n : Nat} {S : Store} : ∀ {ρ ρ' : Rho} {i : Nat} {d : D}, frzE n S ρ = some ρ' → ρ'[i]? = some (some d) → ∃ c, ρ[i]? = some (some c) ∧ frz n S c = some d
  | [], ρ', i, d, e, h => by cases e; simp at h
  | none :: r, ρ', i, d, e, h => by
    obtain ⟨x, e1, rfl⟩ := Option.map_eq_some_iff.mp e
    cases i with
    | zero => simp at h
    | succ i => simpa using frzE_get e1 (by simpa using h)
  | some c :: r, ρ', i, d, e, h => by
    unfold frzE at e
    cases e1 : frz n S c with
    | none => simp only [e1] at e; cases e
    | some x =>
      cases e2 : frzE n S r with
      | none => simp only [e1, e2] at e; cases e
      | some xs =>
        simp only [e1, e2] at e
        cases e
        cases i with
        | zero =>
          simp at h
          exact ⟨c, rfl, by rw [e1, h]⟩
        | succ i => simpa using frzE_get e2 (by simpa using h)
theorem EnvR.frz {w : Wd} {L : Ly} {H : Hp} {S : Store} {ρ ρ' : Rho} {σ : L2.St} {n : Nat} (r : EnvR w L H ρ σ) (s : Sto w L H S) (e : frzE n S ρ = some ρ') : EnvR w (L.cut n) H ρ' σ :=
  ⟨(frzE_len e).trans r.1, fun i d h => by
    obtain ⟨c, h1, h2⟩ := frzE_get e h
    obtain ⟨v, h3, h4⟩ := r.2 i c h1
    exact ⟨v, h3, frz_ok s h4 h2⟩⟩
open Classical in
noncomputable def regE (S : Store) (ρ : Rho) (S1 : Store) (k : Rho → Fl) : Res Fl :=
  if S1.length = S.length then .ok (k ρ) S1 else if Kept S S1 then (match frzE S.length S1 ρ with
    | some ρ' => .ok (k ρ') (S1.take S.length)
    | none => .no) else .no
/-- a block: its own cells go out of sight behind it -/
noncomputable def sReg (f : SS) : SS := fun ρ S => (f ρ S).bind fun fl S1 => match fl with
  | .nx ρ1 => regE S ρ1 S1 .nx
  | .ct ρ1 => regE S ρ1 S1 .ct
  | .bk ρ1 => regE S ρ1 S1 .bk
  | .rt d => (leave S d S1).bind fun d' S2 => .ok (.rt d') S2
theorem regE_ok {w : Wd} {L L1 : Ly} {H H1 : Hp} {S S1 : Store} {ρ : Rho} {σ : L2.St} {k : Rho → Fl} {D : Ends} (s : Sto w L H S) (e : Ex L H L1 H1) (s1 : Sto w L1 H1 S1) (r : EnvR w L1 H1 ρ σ) (p : Post w W L H (QS w D) (regE S ρ S1 k)) : ∃ ρ' L' S', EnvR w L' H1 ρ' σ ∧ QS w D (k ρ') S' L' H1 := by
  unfold regE at p
  by_cases hl : S1.length = S.length
  · rw [if_pos hl] at p
    exact ⟨ρ, L1, S1, r, p.there e s1⟩
  · rw [if_neg hl] at p
    by_cases hk : Kept S S1
    · rw [if_pos hk] at p
      cases ef : frzE S.length S1 ρ with
      | none => simp only [ef] at p; exact (show False from p).elim
      | some ρ' =>
        simp only [ef] at p
        have r' := r.frz s1 ef
        rw [← s.len, e.cut] at r'
        exact ⟨ρ', L, _, r', p.there e.cutEx (s.cut e s1 hk)⟩
    · rw [if_neg hk] at p
      exact p.elim
theorem RS.reg {w : Wd} {t : TS} {f : SS} (h : RS w W t f) : RS w W t (sReg f) := fun ρ σ L H S D er st p =>
  h ρ σ L H S D er st (by
    unfold sReg at p
    cases ef : f ρ S with
    | no => rw [ef] at p; exact (show False from p).elim
    | exc x fs S1 =>
      rw [ef] at p
      exact p
    | ok fl S1 =>
      rw [ef] at p
      intro L1 H1 e1 s1
      cases fl with
      | nx ρ1 =>
        intro σ1 er1
        obtain ⟨ρ', L', S', r', q⟩ := regE_ok (k := .nx) st e1 s1 er1 p
        exact q σ1 r'
      | ct ρ1 =>
        intro σ1 er1
        obtain ⟨ρ', L', S', r', q⟩ := regE_ok (k := .ct) st e1 s1 er1 p
        exact q σ1 r'
      | bk ρ1 =>
        intro σ1 er1
        obtain ⟨ρ', L', S', r', q⟩ := regE_ok (k := .bk) st e1 s1 er1 p
        exact q σ1 r'
      | rt d =>
        intro v rv
        refine leave_ok w W L L1 H H1 S S1 d v D.rt st e1 s1 rv ?_
        exact Post.imp (Post.bind (show Post w W L H (QS w D) ((leave S d S1).bind fun d' S2 => .ok (.rt d') S2) from p)) fun d' S2 L2 H2 e2 s2 q => q.here s2)
theorem dss_reg {b : List Stmt} {f : SS} (h : DSs X W b f) : DSs X W b (sReg f) := by
  obtain ⟨t, p, r⟩ := h
  exact ⟨t, p, r.reg⟩
/-! ### while -/
/-- at most so many turns -/
def whileL (c : SB) (body : SS) : Nat → Rho → Store → Res Fl
  | 0, _, _ => .no
  | n + 1, ρ, S => (c ρ S).bind fun k S1 => if k = true then (body ρ S1).bind fun fl S2 => (match fl with
      | .nx ρ2 => whileL c body n ρ2 S2
      | .ct ρ2 => whileL c body n ρ2 S2
      | .bk ρ2 => .ok (.nx ρ2) S2
      | .rt d => .ok (.rt d) S2) else .ok (.nx ρ) S1
def sWhile (n : Nat) (c : SB) (body : SS) : SS := fun ρ S => whileL c body n ρ S
theorem ds_while {c : Expr} {body : List Stmt} {fc : SB} {fb : SS} {pos : Pos} (n : Nat) (hp : PassesOwn (model X.prog X.w) X.A X.env X.xe) (hc : DT X W c fc) (hb : DSs X W body fb) : DS X W (.While c body [] pos) (sWhile n fc fb) := by
  obtain ⟨tc, pc, rc⟩ := hc
  obtain ⟨tb, pb, rb⟩ := hb
  refine ⟨_, ps_while hp pc pb, fun ρ σ L H S D er st p => ?_⟩
  refine ⟨fun m σi Hi => ∃ (ρi : Rho) (Li : Ly) (Si : Store), Ex L H Li Hi ∧ EnvR (wd X W) Li Hi ρi σi ∧ Sto (wd X W) Li Hi Si ∧ Post (wd X W) W L H (QS (wd X W) D) (whileL fc fb m ρi Si), ⟨n, ρ, L, S, Ex.refl _ _, er, st, p⟩, ?_⟩
  rintro m σi Hi ⟨ρi, Li, Si, ex, eri, sti, post⟩
  cases m with
  | zero => exact (show False from post).elim
  | succ m =>
    unfold whileL at post
    cases ec : fc ρi Si with
    | no => rw [ec] at post; exact (show False from post).elim
    | exc x fs S1 =>
      rw [ec] at post
      refine rc ρi σi Li Hi Si _ eri sti ?_
      rw [ec]
      have q : Post (wd X W) W Li Hi (QS (wd X W) D) (.exc x fs S1) := Post.mono ex post
      cases W with | mk T E er => cases E with
      | none => exact (show False from q).elim
      | some E => exact q
    | ok k S1 =>
      rw [ec] at post
      refine rc ρi σi Li Hi Si _ eri sti ?_
      rw [ec]
      intro L1 H1 e1 s1
      replace post : Post (wd X W) W L H (QS (wd X W) D) (if k = true then (fb ρi S1).bind fun fl S2 => (match fl with
        | .nx ρ2 => whileL fc fb m ρ2 S2
        | .ct ρ2 => whileL fc fb m ρ2 S2
        | .bk ρ2 => .ok (.nx ρ2) S2
        | .rt d => .ok (.rt d) S2) else .ok (.nx ρi) S1) := post
      cases k with
      | false =>
        rw [if_neg Bool.false_ne_true] at post
        show (if false = true then _ else _)
        rw [if_neg Bool.false_ne_true]
        exact post.there (ex.trans e1) s1 σi (eri.mono e1)
      | true =>
        rw [if_pos rfl] at post
        show (if true = true then _ else _)
        rw [if_pos rfl]
        refine ⟨fun σ' H' => ∃ (ρi : Rho) (Li : Ly) (Si : Store), Ex L H Li H' ∧ EnvR (wd X W) Li H' ρi σ' ∧ Sto (wd X W) Li H' Si ∧ Post (wd X W) W L H (QS (wd X W) D) (whileL fc fb m ρi Si),
          fun σ' H' q => ⟨m, Nat.lt_succ_self m, q⟩, rb ρi σi L1 H1 S1 _ (eri.mono e1) s1 ?_⟩
        cases hr : fb ρi S1 with
        | no => rw [hr] at post; exact (show False from post).elim
        | exc x fs S2 =>
          rw [hr] at post
          have q : Post (wd X W) W L1 H1 (QS (wd X W) D) (.exc x fs S2) := Post.mono (ex.trans e1) post
          cases W with | mk T E er => cases E with
          | none => exact (show False from q).elim
          | some E => exact q
        | ok fl S2 =>
          rw [hr] at post
          intro L3 H3 e3 s3
          have ex3 : Ex L H L3 H3 := (ex.trans e1).trans e3
          cases fl with
          | nx ρ2 => exact fun σ2 er2 => ⟨ρ2, L3, S2, ex3, er2, s3, post⟩
          | ct ρ2 => exact fun σ2 er2 => ⟨ρ2, L3, S2, ex3, er2, s3, post⟩
          | bk ρ2 => exact fun σ2 er2 => (show Post (wd X W) W L H (QS (wd X W) D) (.ok (.nx ρ2) S2) from post).there ex3 s3 σ2 er2
          | rt d => exact fun v rv => (show Post (wd X W) W L H (QS (wd X W) D) (.ok (.rt d) S2) from post).there ex3 s3 v rv
/-! ### a statement that is never come to -/
def sNever : SS := fun _ _ => .no
theorem ds_never {st : Stmt} : DS X W st sNever := ⟨fun _ _ _ => False, ⟨fun pins s σ H D I h => h.elim⟩, fun ρ σ L H S D er sto p => p⟩
end
end Ls
/-! LsI: lists and tuples turned round, lists that are cells. -/
namespace Ls
open PySem PySem.Spec PyProof.Rows L2
/-! ### x[::-1] -/
section
variable {prog : Program} {w : World} {A : Around} {E : Value → Shared → Prop} {s : Shared}
theorem slAdj (n : Nat) : Builtin.Slice.sliceAdjust none none (-1) (n : Int) = ((n : Int) - 1, -1) := by
  unfold Builtin.Slice.sliceAdjust
  rfl
theorem slPlaces (n : Nat) : Builtin.Slice.slicePlaces ((n : Int) - 1) (-1) (-1) = n := by
  unfold Builtin.Slice.slicePlaces
  simp
  split <;> omega
theorem slApplied {sl : Addr} {vl vu vs : Value} {n : Nat} {Q : Int × Int × Nat → Shared → Prop} (hs : s.heap.IsSliceOf sl vl vu vs) (pl : IsPart vl none) (pu : IsPart vu none) (ps : IsPart vs (some (-1)))
    (h : Q ((n : Int) - 1, -1, n) s) : wpAny (model prog w) A (Builtin.Slice.sliceApplied (.ref sl) (pure (n : Int))) Q E s := by
  obtain ⟨o, ho, _, hd⟩ := id hs
  unfold Builtin.Slice.sliceApplied Builtin.Slice.sliceFields
  refine wpAny_bind (wpAny_bind (wpAny_field ho hd (x := vl) rfl (wpAny_bind (wpAny_field ho hd (x := vu) rfl (wpAny_bind (wpAny_field ho hd (x := vs) rfl (wpAny_pure ?_)))))))
  refine wpAny_bind (HT.slicePart_ ps ?_)
  show wpAny _ _ (if ((-1 : Int) == 0) = true then _ else _) _ _ s
  rw [if_neg (by decide)]
  refine wpAny_bind (HT.slicePart_ pl (wpAny_bind (HT.slicePart_ pu (wpAny_bind (wpAny_pure ?_)))))
  show wpAny _ _ (match Builtin.Slice.sliceAdjust none none (-1) (n : Int) with | (lo, hi) => pure (lo, (-1 : Int), Builtin.Slice.slicePlaces lo hi (-1))) _ _ s
  rw [slAdj]
  show wpAny _ _ (pure ((n : Int) - 1, (-1 : Int), Builtin.Slice.slicePlaces ((n : Int) - 1) (-1) (-1))) _ _ s
  rw [slPlaces]
  exact wpAny_pure h
theorem pickRev (xs : Array Value) : ((List.range xs.size).filterMap fun (m : Nat) => xs[((xs.size : Int) - 1 + (m : Int) * -1).toNat]?).toArray = xs.toList.reverse.toArray := by
  congr 1
  apply List.ext_getElem?
  intro i
  have key : ∀ (n : Nat), n ≤ xs.size → (List.range n).filterMap (fun (m : Nat) => xs[((xs.size : Int) - 1 + (m : Int) * -1).toNat]?) = xs.toList.reverse.take n := by
    intro n
    induction n with
    | zero => intro _; simp
    | succ n ih =>
      intro h
      rw [List.range_succ, List.filterMap_append, ih (by omega), List.take_add_one]
      congr 1
      have e : ((xs.size : Int) - 1 + (n : Int) * -1).toNat = xs.size - 1 - n := by omega
      have h1 : xs.size - 1 - n < xs.size := by omega
      have h2 : xs.toList.reverse[n]? = some xs[xs.size - 1 - n] := by
        rw [List.getElem?_reverse (by simp; omega)]
        simp [h1]
      rw [h2, List.filterMap_cons, e, List.filterMap_nil]
      simp [h1]
  rw [key xs.size (Nat.le_refl _), List.take_of_length_le (by simp)]
theorem getRevT {t sl : Addr} {items : Array Value} {vl vu vs : Value} {Q : Value → Shared → Prop} (ht : IsTup s.heap t items) (hs : s.heap.IsSliceOf sl vl vu vs) (pl : IsPart vl none) (pu : IsPart vu none) (ps : IsPart vs (some (-1)))
    (h : Q (.ref s.heap.objs.size) { s with heap := s.heap.push { cls := .type "tuple", data := .seq items.toList.reverse.toArray } }) (hz : items.size ≤ sizeLine) : wpAny (model prog w) A (getItem (.ref t) (.ref sl)) Q E s := by
  have hsz : sizeOk (.seq items.toList.reverse.toArray) := by
    show items.toList.reverse.toArray.size ≤ sizeLine
    simpa using hz
  obtain ⟨o, ho, hc, hd⟩ := id hs
  have tS : s.TypeIs (.ref sl) "slice" := ⟨o, ho, hc⟩
  unfold getItem
  try with_reducible refine wpAny_holding ?_
  first | refine wpAny_bind (wpAny_pure ?_) | skip
  refine wpAny_bind (wpAny_sequenceKey ht.typeIs (by decide) ?_)
  refine wpAny_bind (wpAny_callSpecial?_slot (name := Str.ofString "__getitem__") ht.typeIs PyProof.Rows.slot_tuple_getitem (wpAny_call_entry PyProof.Rows.slot_tuple_getitem ht.typeIs entry_tuple_getitem ?_ (args_tuple_getitem _ _)))
  show wpAny _ _ (Builtin.Tuple.tupleItemsOf (.ref t) >>= _) _ _ s
  refine wpAny_bind (tupleItemsOf_ ht (wpAny_bind (wpAny_typeOf tS ?_)))
  rw [if_pos (by decide)]
  refine wpAny_bind (slApplied hs pl pu ps ?_)
  show wpAny _ _ (if (((items.size : Int) - 1) == 0 && (-1 : Int) == 1 && items.size == items.size) = true then _ else _) _ _ s
  rw [if_neg (by simp), pickRev]
  first
    | exact wpAny_bind (m := Builtin.Tuple.tupleExact _) (wpAny_newObj_type (wpAny_pure ⟨_, rfl, wpAny_pure h⟩) hsz)
    | exact wpAny_bind (m := Builtin.Tuple.tupleExact _) (wpAny_newObj_type (wpAny_bind (wpAny_pure (wpAny_pure ⟨_, rfl, wpAny_pure h⟩))) hsz)
    | exact wpAny_bind (wpAny_bind (m := Builtin.Tuple.tupleExact _) (wpAny_newObj_type (wpAny_pure (wpAny_pure ⟨_, rfl, wpAny_pure h⟩)) hsz))
    | exact wpAny_bind (wpAny_bind (m := Builtin.Tuple.tupleExact _) (wpAny_newObj_type (wpAny_pure ⟨_, rfl, wpAny_pure h⟩) hsz))
end
section
variable {X : Cx} {W : XW} {w : Wd}
/-- x[::-1]: of a list, of a tuple -/
def tRevA (K : PySem.W.Frag) (te : TE) : TE := fun σ H Q => te σ H fun x H1 => ∃ a xs, x = .ref a ∧ ((SqL K H1 a xs ∧ ∀ p, H1 p = none → Q (.ref p) (upd H1 p (.lst xs.reverse))) ∨ (SqT K H1 a xs ∧ ∀ p, H1 p = none → Q (.ref p) (upd H1 p (.tup xs.reverse))))
theorem pe_revA {e : Expr} {te : TE} {k : Nat} {p1 p2 p3 pos : Pos} (he : PE X e te) : PE X (.Subscript e (.Slice none none (some (.UnaryOp .USub (.Constant (.int 1) k p1) p2)) p3) pos) (tRevA X.K te) := by
  refine ⟨fun pins s σ H Q I h => ?_⟩
  refine Subscript_ (thn (he.run pins s σ H _ I h) fun v s1 ⟨x, H1, I1, r1, q1⟩ => ?_)
  obtain ⟨a, xs, ex, q⟩ := q1
  subst ex
  cases r1
  have hst : PO X (some (.UnaryOp .USub (.Constant (.int 1) k p1) p2)) (tPart (tUn (rU fun i => .int (-i)) (tC (.int 1)))) := po_some (pe_un un_neg pe_int)
  refine wpAny_Slice (thn (po_none.run pins s1 σ H1 (fun o H2 => o = none ∧ H2 = H1) I1 ⟨rfl, rfl⟩) fun vl s2 hh => ?_)
  obtain ⟨l, H2, I2, pl, el, e2⟩ := hh
  subst el e2
  refine thn (po_none.run pins s2 σ H2 (fun o H3 => o = none ∧ H3 = H2) I2 ⟨rfl, rfl⟩) fun vu s3 hh => ?_
  obtain ⟨u, H3, I3, pu, eu, e3⟩ := hh
  subst eu e3
  refine thn (hst.run pins s3 σ H3 (fun o H4 => o = some (-1) ∧ H4 = H3) I3 ⟨1, rfl, -1, rfl, rfl, rfl⟩) fun vs s4 hh => ?_
  obtain ⟨o, H4, I4, ps, eo, e4⟩ := hh
  subst eo e4
  have I5 : Inv X pins σ H4 { s4 with heap := s4.heap.push { cls := .type "slice", data := .fields #[vl, vu, vs] } } := I4.kept (t' := s4.toks) fun b ob q => Heap.get?_push_of_some _ q
  show wpAny (model X.prog X.w) X.A (subscriptTail e (.Slice none none (some (.UnaryOp .USub (.Constant (.int 1) k p1) p2)) p3) (.ref a) (.ref s4.heap.objs.size)) (EP X pins σ Q) X.xe { s4 with heap := s4.heap.push { cls := .type "slice", data := .fields #[vl, vu, vs] } }
  rcases q with ⟨hx, q⟩ | ⟨hx, q⟩
  · obtain ⟨its, r, ht, hz⟩ := I5.list hx
    have hlen := r.length
    refine tail_any (ops := [.ref a, .ref s4.heap.objs.size]) ht.isList.typeIs (PySem.slot_list_getitem.lookup) ?_ (by with_unfolding_all rfl)
    refine wpAny_getItem_list_slice ht.isList (Heap.IsSliceOf.new _ vl vu vs) pl pu ps (by decide) ?_ (by rw [List.size_toArray]; omega)
    rw [PySem.W.krv_pick]
    refine ⟨.ref _, _, I5.laid (t' := s4.toks) (o := .lst xs.reverse) (fun b ob q => Heap.get?_push_of_some _ q) (Nat.le_refl _) ?_, rfl, q _ (I5.hok.fresh (Nat.le_refl _))⟩
    exact ⟨by rw [List.length_reverse]; exact hz, _, 0, r.reverse, Heap.get?_push_size _ rfl⟩
  · obtain ⟨its, r, ht, hz⟩ := I5.tuple hx
    have hlen := r.length
    refine tail_any (ops := [.ref a, .ref s4.heap.objs.size]) ht.typeIs (PyProof.Rows.slot_tuple_getitem.lookup) ?_ (by with_unfolding_all rfl)
    refine getRevT ht (Heap.IsSliceOf.new _ vl vu vs) pl pu ps ?_ (by rw [List.size_toArray]; omega)
    refine ⟨.ref _, _, I5.laid (t' := s4.toks) (o := .tup xs.reverse) (fun b ob q => Heap.get?_push_of_some _ q) (Nat.le_refl _) ?_, rfl, q _ (I5.hok.fresh (Nat.le_refl _))⟩
    exact ⟨by rw [List.length_reverse]; exact hz, _, r.reverse, ⟨_, Heap.get?_push_size _ rfl, rfl, _, rfl⟩⟩
def dRev (d : D) (S1 : Store) : Res D := match d with
  | .tup xs => .ok (.tup xs.reverse) S1
  | d => (match items S1 d with
    | some xs => .ok (.lst xs.reverse) S1
    | none => .no)
def eRev (f : SE) : SE := fun ρ S => (f ρ S).bind dRev
theorem de_rev {e : Expr} {f : SE} {k : Nat} {p1 p2 p3 pos : Pos} (h : DE X W e f) : DE X W (.Subscript e (.Slice none none (some (.UnaryOp .USub (.Constant (.int 1) k p1) p2)) p3) pos) (eRev f) := by
  obtain ⟨t, p, r⟩ := h
  refine ⟨_, pe_revA p, fun ρ σ L H S Q er st p => r ρ σ L H S _ er st (p.step fun d S1 L1 H1 e1 s1 p1 v rv => ?_)⟩
  have gen : ∀ {d : D} {xs : List D} {a : Addr} {vs : List V}, RepL (wd X W) L1 H1 vs xs → SqL X.K H1 a vs → Post (wd X W) W L1 H1 (QV (wd X W) Q) (.ok (.lst xs.reverse) S1) → ∃ b ys, (V.ref a) = .ref b ∧ ((SqL X.K H1 b ys ∧ ∀ p, H1 p = none → Q (.ref p) (upd H1 p (.lst ys.reverse))) ∨ (SqT X.K H1 b ys ∧ ∀ p, H1 p = none → Q (.ref p) (upd H1 p (.tup ys.reverse)))) :=
    fun {d xs a vs} r hq p => ⟨a, vs, rfl, .inl ⟨hq, fun q hn => p.there (s1.ex hn) (s1.new hn) _ (.lst upd_same (s1.no hn) (r.rev.mono (s1.ex hn)))⟩⟩
  cases rv with
  | @tup a vs ds h n r => exact ⟨a, vs, rfl, .inr ⟨.inl h, fun q hn => (show Post (wd X W) W L1 H1 (QV (wd X W) Q) (.ok (.tup ds.reverse) S1) from p1).there (s1.ex hn) (s1.new hn) _ (.tup (.inl upd_same) (s1.no hn) (r.rev.mono (s1.ex hn)))⟩⟩
  | @lst a vs ds h n r => exact gen (d := .non) r (.of h) p1
  | @scr a ns h => exact gen (d := .non) (repL_ints ns) h.sq p1
  | @ref a n h =>
    replace p1 : Post (wd X W) W L1 H1 (QV (wd X W) Q) (match cell S1 n with
      | some xs => .ok (.lst xs.reverse) S1
      | none => .no) := p1
    cases ec : cell S1 n with
    | none => simp only [ec] at p1; exact (show False from p1).elim
    | some xs =>
      simp only [ec] at p1
      obtain ⟨vs, hv, q⟩ := cell_ok ec s1 h
      exact gen (d := .non) q (.of hv) p1
  | _ => exact (show False from p1).elim
/-! ### a comprehension's list as a cell; list * int as a cell -/
theorem finC_ok : FinOk finC := by
  intro w W L H H' S Q p vs ds L₀ hp st r hn ex hp0 post
  have hpc : p ∉ L.c := fun z => hn (.inl z)
  have hpp : p ∉ L.p := fun z => hn (.inr z)
  have ey : Ey (L.prv p) H' (L.add p) H' := ⟨⟨[p], rfl⟩, fun b o h _ n => ⟨h, fun z => n (by
    rcases z with z | z
    · rcases List.mem_append.mp z with z | z
      · exact .inl z
      · exact .inr (by rw [List.mem_singleton.mp z]; exact List.mem_cons_self)
    · exact .inr (List.mem_cons_of_mem _ z))⟩, KindK.refl _ _⟩
  have exx : Ex L₀ H (L.add p) H' := by
    obtain ⟨N, e⟩ := ex.pre
    refine ⟨⟨N ++ [p], by show L.c ++ [p] = _; rw [e, List.append_assoc]⟩, ex.prv, fun b o h t n => ⟨(ex.keep b o h t n).1, fun z => ?_⟩, ex.still, ex.knd⟩
    rcases z with z | z
    · rcases List.mem_append.mp z with z | z
      · exact (ex.keep b o h t n).2 (.inl z)
      · exact ne_of_none h hp0 (List.mem_singleton.mp z)
    · exact (ex.keep b o h t n).2 (.inr z)
  have sto : Sto w (L.add p) H' (S ++ [.lst ds]) := by
    refine ⟨by simp [st.len], ?_, fun m o a h1 h2 => ?_, fun a ha => st.pr a (List.mem_cons_of_mem _ ha), fun a ha hb => ?_, st.tab⟩
    · show (L.c ++ [p]).Nodup
      rw [List.nodup_append]
      exact ⟨st.nd, by simp, fun a ha b hb => by rw [List.mem_singleton.mp hb]; exact fun z => hpc (z ▸ ha)⟩
    · replace h2 : (L.c ++ [p])[m]? = some a := h2
      by_cases hm : m < S.length
      · rw [List.getElem?_append_left hm] at h1
        rw [List.getElem?_append_left (by have := st.len; simp only at this; omega)] at h2
        have ob := st.ob m o a h1 h2
        obtain ⟨us, hu, q⟩ := ob
        exact ⟨us, hu, q.monoY ey⟩
      · have hl : L.c.length = S.length := st.len
        rw [List.getElem?_append_right (by omega)] at h1
        rw [List.getElem?_append_right (by omega), hl] at h2
        have e0 : m - S.length = 0 := by
          have := (List.getElem?_eq_some_iff.mp h1).1
          simp at this
          omega
        rw [e0] at h1 h2
        simp at h1 h2
        subst h1 h2
        exact ⟨vs, hp, r.monoY ey⟩
    · rcases List.mem_append.mp ha with z | z
      · exact st.ap a z (List.mem_cons_of_mem _ hb)
      · rw [List.mem_singleton.mp z] at hb
        exact hpp hb
  refine post.there exx sto _ (.ref ?_ (.lst hp))
  have hl : L.c.length = S.length := st.len
  show (L.c ++ [p])[S.length]? = some p
  rw [← hl, List.getElem?_append_right (Nat.le_refl _), Nat.sub_self]
  rfl
def dMulC : D → D → Store → Res D
  | .lst xs, .int k, S => if (small (xs.length * k.toNat) && Nat.ble k.natAbs 1000000) = true then .ok (.ref S.length) (S ++ [.lst (List.replicate k.toNat xs).flatten]) else .no
  | _, _, _ => .no
theorem od_mulC : OpD w rRep dMulC := by
  intro W L H S x y a b Q st rx ry p
  cases rx <;> cases ry <;> first | exact (show False from p).elim | skip
  rename_i a xs ds h n r k
  replace p : Post w W L H (QV w Q) (if (small (ds.length * k.toNat) && Nat.ble k.natAbs 1000000) = true then .ok (.ref S.length) (S ++ [.lst (List.replicate k.toNat ds).flatten]) else .no) := p
  by_cases hc : (small (ds.length * k.toNat) && Nat.ble k.natAbs 1000000) = true
  · rw [if_pos hc] at p
    simp only [Bool.and_eq_true, Nat.ble_eq] at hc
    obtain ⟨h1, h2⟩ := hc
    refine ⟨a, k, xs, rfl, rfl, h, by omega, by omega, by rw [r.len]; exact small_le h1, fun q hq => ?_⟩
    refine p.there (Ex.newM hq (st.no hq)) (st.newM hq (r.repl _)) _ (.ref ?_ (.lst upd_same))
    show (L.c ++ [q])[S.length]? = some q
    rw [← st.len, List.getElem?_append_right (Nat.le_refl _), Nat.sub_self]
    rfl
  · rw [if_neg hc] at p
    exact p.elim
theorem de_mulC {a b : Expr} {sa sb : SE} {pos : Pos} (ha : DE X W a sa) (hb : DE X W b sb) : DE X W (.BinOp a .Mult b pos) (eOp dMulC sa sb) := de_op op_rep od_mulC ha hb
end
end Ls
/-! LsJ: repr, count, index, raise. -/
namespace Ls
open PySem PySem.Spec PyProof.Rows L2
section
variable {X : Cx} {W : XW} {w : Wd} {e : Expr} {es : List Expr} {fa : SA} {p pos : Pos}
/-! ### repr -/
def okRepr (x : PyData) : Bool := x.showable && !x.hasDict && Nat.ble x.depth 50 && small x.shown.length
def rReprD (K : PySem.W.Frag) : List V → Hp → VK → Prop := fun xs H Q => ∃ v x, xs = [v] ∧ Dp K H v x ∧ okRepr x = true ∧ Q (.str x.shown) H
theorem call_reprD (hg : X.A.guards = some []) (hu : X.A.units + 64 < cLine) : CallR X (.builtin "repr") (rReprD X.K) := by
  intro pins s σ H vs us Q I r h
  obtain ⟨v, x, rfl, hd, hk, q⟩ := h
  unfold okRepr at hk
  simp only [Bool.and_eq_true, Nat.ble_eq, Bool.not_eq_true'] at hk
  obtain ⟨⟨⟨h1, h2⟩, h3⟩, h4⟩ := hk
  cases r with
  | cons rv rr =>
    cases rr
    have big : ∀ {a : Addr} {as : List Addr}, Reads s.heap (.ref a) x as → wpAny (model X.prog X.w) X.A (call (.builtin "repr") [.ref a]) (EP X pins σ Q) X.xe s := fun {a as} rd =>
      repr_of_reads' rd h1 (fun z => by rw [h2] at z; cases z) hg (by omega) (fun b o e => e) (fun h' u tk hk => ⟨.str x.shown, H, I.kept hk, ⟨_, rfl⟩, q⟩) (small_le h4)
    cases hd with
    | non => cases rv; exact P.repr_of_none ⟨.str _, H, I.tok _, ⟨_, rfl⟩, q⟩
    | bl b => cases rv; exact P.repr_of_bool ⟨.str _, H, I.tok _, ⟨_, rfl⟩, q⟩
    | int i =>
      obtain ⟨t, rfl⟩ := rv
      exact P.repr_of_int (by simpa [PyData.showable] using h1) ⟨.str _, H, I.tok _, ⟨_, rfl⟩, q⟩
    | str z =>
      obtain ⟨t, rfl⟩ := rv
      exact P.repr_of_str ⟨.str _, H, I.tok _, ⟨_, rfl⟩, q⟩ (small_le h4)
    | lst hs ha =>
      cases rv
      obtain ⟨as, rd⟩ := Dp.reads I _ _ _ (.lst hs ha) rfl
      exact big rd
    | tup hs ha =>
      cases rv
      obtain ⟨as, rd⟩ := Dp.reads I _ _ _ (.tup hs ha) rfl
      exact big rd
def dRepr : List D → Store → Res D
  | [d], S => match pdS S d with
    | some x => if okRepr x = true then .ok (.str x.shown) S else .no
    | none => .no
  | _, _ => .no
theorem cd_repr : CallD w (rReprD w.K) dRepr := by
  intro W L H S vs ds Q st r p
  match ds, p with
  | [d], p =>
    obtain ⟨v, rfl, rv⟩ := rep1 r
    replace p : Post w W L H (QV w Q) (match pdS S d with
      | some x => if okRepr x = true then .ok (.str x.shown) S else .no
      | none => .no) := p
    cases e1 : pdS S d with
    | none => simp only [e1] at p; exact (show False from p).elim
    | some x =>
      simp only [e1] at p
      by_cases hk : okRepr x = true
      · rw [if_pos hk] at p
        exact ⟨v, x, rfl, pdS_dp st rv e1, hk, p.here st _ (.str _)⟩
      · rw [if_neg hk] at p
        exact p.elim
  | [], p => exact (show False from p).elim
  | _ :: _ :: _, p => exact (show False from p).elim
theorem de_repr {k : Nat} (hr : RmG k X.A) (hm : X.mg "repr" = none) (ha : DA X W (e :: es) fa) (hg : Gl X "repr" := by rfl) (he : starEach (e :: es) X.env = (false, eval e X.env) :: starEach es X.env := by rfl) (hpl : (backTo pos (starEach es X.env)).any (·.1) = false := by rfl) :
    DE X W (.Call (.Name "repr" p) (e :: es) [] pos) (eCB dRepr fa) := de_callB (call_reprD (hr.gd rfl) hr.units) cd_repr hm (by decide +kernel) ha hg (by decide) (by decide) he hpl
/-! ### x.count(y), l.index(y) -/
def rCnt (K : PySem.W.Frag) : V → List V → Hp → VK → Prop := fun x xs H Q => ∃ (a : Addr) (y : V) (d : PyData) (ds : List PyData), x = V.ref a ∧ xs = [y] ∧ Dp K H (V.ref a) (.list ds) ∧ Dp K H y d ∧ SeqAt.shaped (.list ds) = true ∧ SeqAt.shaped d = true ∧ Q (.int ((ds.countP fun z => PyData.eqv z d : Nat) : Int)) H
theorem plain_of {d : PyData} (h : SeqAt.shaped d = true) : d.plain = true := PyData.plain_of_canLay0 d (SeqAt.canLay_of_shaped h)
theorem mt_cnt (hu : X.A.units + 65 < cLine) : MtR X "list.count" (rCnt X.K) := by
  intro pins s σ H x xs v us Q I rx rxs h
  obtain ⟨a, y, d, ds, rfl, rfl, hl, hy, sl, sd, q⟩ := h
  cases rx
  cases rxs with
  | cons ry rt =>
    cases rt
    obtain ⟨bs, r1⟩ := Dp.reads I d y _ hy ry
    cases hl with
    | lst hs ha =>
      obtain ⟨its, rv, pl, _⟩ := I.list hs
      obtain ⟨as, h4⟩ := Dp.readsAll I ds _ its ha rv
      exact SeqAt.count_list_data pl.isList h4 r1 (PyData.plainAll_of_canLay0 ds (SeqAt.canLay_of_shaped sl)) (plain_of sd) (room_in_shaped sd hu) ⟨.int _, H, I.tok _, ⟨_, rfl⟩, q⟩
def dCount : D → List D → Store → Res D := fun d ys S => match pdS S d, ys with
  | some (.list ds), [y] => (match pdS S y with
    | some z => if (SeqAt.shaped (.list ds) && SeqAt.shaped z) = true then .ok (.int ((ds.countP fun u => PyData.eqv u z : Nat) : Int)) S else .no
    | none => .no)
  | _, _ => .no
theorem rep_ref {L : Ly} {H : Hp} {S : Store} {v : V} {d : D} {ds : List PyData} (r : Rep w L H v d) (e : pdS S d = some (.list ds)) : ∃ a, v = .ref a := by
  cases r with
  | lst h n r => exact ⟨_, rfl⟩
  | ref h => exact ⟨_, rfl⟩
  | tup h n r => exact ⟨_, rfl⟩
  | scr h => exact ⟨_, rfl⟩
  | gl h => exact ⟨_, rfl⟩
  | emp h n => exact ⟨_, rfl⟩
  | err0 h m => exact ⟨_, rfl⟩
  | err2 h m hd n r s => exact ⟨_, rfl⟩
  | _ => exact nomatch e
theorem md_count : MtD w (rCnt w.K) dCount := by
  intro W L H S x d vs ds Q st r rs p
  unfold dCount at p
  cases e1 : pdS S d with
  | none => simp only [e1] at p; exact (show False from p).elim
  | some u =>
    cases u with
    | list us =>
      match ds, rs, p with
      | [y], rs, p =>
        obtain ⟨v, rfl, rv⟩ := rep1 rs
        simp only [e1] at p
        cases e2 : pdS S y with
        | none => simp only [e2] at p; exact (show False from p).elim
        | some z =>
          simp only [e2] at p
          by_cases hk : (SeqAt.shaped (.list us) && SeqAt.shaped z) = true
          · rw [if_pos hk] at p
            have hk2 := Bool.and_eq_true_iff.mp hk
            obtain ⟨a, rfl⟩ := rep_ref r e1
            exact ⟨a, v, z, us, rfl, rfl, pdS_dp st r e1, pdS_dp st rv e2, hk2.1, hk2.2, p.here st _ (.int _)⟩
          · rw [if_neg hk] at p
            exact p.elim
      | [], rs, p => simp only [e1] at p; exact (show False from p).elim
      | _ :: _ :: _, rs, p => simp only [e1] at p; exact (show False from p).elim
    | _ => simp only [e1] at p; exact (show False from p).elim
/-- where the first that is == stands -/
def dIndex : D → List D → Store → Res D := fun d ys S => match pdS S d, ys with
  | some (.list ds), [y] => (match pdS S y with
    | some z => if (SeqAt.shaped (.list ds) && SeqAt.shaped z) = true then (match ds.findIdx? fun u => PyData.eqv u z with
      | some j => .ok (.int (j : Nat)) S
      | none => .no) else .no
    | none => .no)
  | _, _ => .no
theorem md_index : MtD w (rIndexD w.K) dIndex := by
  intro W L H S x d vs ds Q st r rs p
  unfold dIndex at p
  cases e1 : pdS S d with
  | none => simp only [e1] at p; exact (show False from p).elim
  | some u =>
    cases u with
    | list us =>
      match ds, rs, p with
      | [y], rs, p =>
        obtain ⟨v, rfl, rv⟩ := rep1 rs
        simp only [e1] at p
        cases e2 : pdS S y with
        | none => simp only [e2] at p; exact (show False from p).elim
        | some z =>
          simp only [e2] at p
          by_cases hk : (SeqAt.shaped (.list us) && SeqAt.shaped z) = true
          · rw [if_pos hk] at p
            have hk2 := Bool.and_eq_true_iff.mp hk
            cases e3 : us.findIdx? fun u => PyData.eqv u z with
            | none => simp only [e3] at p; exact (show False from p).elim
            | some j =>
              simp only [e3] at p
              obtain ⟨a, rfl⟩ := rep_ref r e1
              obtain ⟨h1, h2, h3⟩ := List.findIdx?_eq_some_iff_getElem.mp e3
              refine ⟨a, v, z, us, j, us[j], rfl, rfl, pdS_dp st r e1, pdS_dp st rv e2, hk2.1, hk2.2, List.getElem?_eq_getElem h1, h2, fun m z' hm hz' => ?_, p.here st _ (.int _)⟩
              obtain ⟨hm2, e4⟩ := List.getElem?_eq_some_iff.mp hz'
              have := h3 m hm
              rw [e4] at this
              simpa using this
          · rw [if_neg hk] at p
            exact p.elim
      | [], rs, p => simp only [e1] at p; exact (show False from p).elim
      | _ :: _ :: _, rs, p => simp only [e1] at p; exact (show False from p).elim
    | _ => simp only [e1] at p; exact (show False from p).elim
theorem de_count {o : Expr} {so : SE} {apos cpos : Pos} (hu : X.A.units + 65 < cLine) (ho : DE X W o so) (ha : DA X W (e :: es) fa)
    (hbase : attributeBase o "count" X.env (eval o X.env) = eval o X.env := by rfl)
    (hfew : ((backTo cpos (starEach (e :: es) X.env)).all (fun x => !x.1) && (backToKw cpos (keywordEach [] X.env)).all (fun x => x.1.isSome)
      && decide ((e :: es).length + ([] : List Keyword).length + (if ([] : List Keyword).isEmpty then 0 else 1) < 30)) = true := by rfl)
    (hline : (apos.endLine == cpos.line) = true := by rfl) (hs : starEach (e :: es) X.env = (false, eval e X.env) :: starEach es X.env := by rfl) (hplain : (backTo cpos (starEach es X.env)).any (·.1) = false := by rfl) :
    DE X W (.Call (.Attribute o "count" apos) (e :: es) [] cpos) (eBM isLs dCount so fa) :=
  de_bm PySem.F.plainAttrs_list PySem.F.slot_list_count PySem.F.type_list_count (mt_cnt hu) td_list md_count ho ha hbase hfew hline hs hplain
theorem de_index {o : Expr} {so : SE} {apos cpos : Pos} (hu : X.A.units + 65 < cLine) (ho : DE X W o so) (ha : DA X W (e :: es) fa)
    (hbase : attributeBase o "index" X.env (eval o X.env) = eval o X.env := by rfl)
    (hfew : ((backTo cpos (starEach (e :: es) X.env)).all (fun x => !x.1) && (backToKw cpos (keywordEach [] X.env)).all (fun x => x.1.isSome)
      && decide ((e :: es).length + ([] : List Keyword).length + (if ([] : List Keyword).isEmpty then 0 else 1) < 30)) = true := by rfl)
    (hline : (apos.endLine == cpos.line) = true := by rfl) (hs : starEach (e :: es) X.env = (false, eval e X.env) :: starEach es X.env := by rfl) (hplain : (backTo cpos (starEach es X.env)).any (·.1) = false := by rfl) :
    DE X W (.Call (.Attribute o "index" apos) (e :: es) [] cpos) (eBM isLs dIndex so fa) :=
  de_bm PySem.F.plainAttrs_list PySem.F.slot_list_index PySem.F.type_list_index (mt_indexD hu) td_list md_index ho ha hbase hfew hline hs hplain
/-! ### {} -/
def eEmp : SE := fun _ S => .ok .emp S
theorem de_emp : DE X W (.Dict [] [] pos) eEmp := by
  refine ⟨_, pe_dnewK, fun ρ σ L H S Q er st p q hq => ?_⟩
  exact p.there (st.ex hq) (st.new hq) _ (.emp upd_same (st.no hq))
/-! ### raise x("..") -/
abbrev bmVE : List Value := [.type "ValueError", .type "Exception", .type "BaseException", .type "object"]
/-- an own class of refusals, made with a text -/
structure ErrT (K : PySem.W.Frag) (mg : Str → Option Value) (x : Str) (C : Addr) : Prop where
  q : PySem.W.excIn K C bmVE "ValueError.__new__" = true
  g : mg x = some (.ref C)
  k : PySem.W.keepIn K (.ref C) = true
  b : PySem.W.subIn K (.ref C) (.type "BaseException") = some true
  t : PySem.W.typeIn K (.ref C) = some (.type "type")
def sRaise (x : Str) : SS := fun _ S => .exc x [] S
theorem ds_raise {x m : Str} {C : Addr} {j : Nat} {p1 p2 p3 : Pos} (tk : Takes X fun cls d _ H => W.wish cls d H) (E : ErrT X.K X.mg x C) (hg : Gl X x := by rfl) (hc : X.calm = true := by rfl) (hdb : (x == ("__debug__" : Str)) = false := by decide) :
    DS X W (.Raise (some (.Call (.Name x p1) [.Constant (.str m) j p2] [] p3)) none pos) (sRaise x) := by
  refine ⟨_, ps_raise hc tk (pmk_own PySem.F.excBase_ValueError E.q E.g E.k (raises_own E.b E.t) hg hdb), fun ρ σ L H S D er st p => ?_⟩
  show W.wish (.ref C) none H
  cases W with | mk T E' er' => cases E' with
  | none => exact (show False from p).elim
  | some E' => exact p L H C none (Ex.refl L H) st E.g rfl
end
end Ls
/-! LsK: an error that is caught, as data; the def that is handed it; what is said of a lambda's call. -/
namespace Ls
open PySem PySem.Spec PyProof.Rows L2
/-! ### errors as data -/
mutual
def noErr : D → Bool
  | .err _ _ => false
  | .tup xs => noErrL xs
  | .lst xs => noErrL xs
  | .stup xs => noErrL xs
  | .xtup xs => noErrL xs
  | _ => true
def noErrL : List D → Bool
  | [] => true
  | d :: r => noErr d && noErrL r
end
section
variable {w : Wd} {L : Ly} {H : Hp}
/-- the world with an error being handled -/
abbrev Wd.hot (w : Wd) (er : Option (Addr × Addr × Option Addr)) : Wd := ⟨w.K, w.mg, w.T, er⟩
mutual
theorem Rep.noE (hw : w.er = none) : ∀ {v : V} {d : D}, Rep w L H v d → noErr d = true
  | _, _, .non => rfl
  | _, _, .bl _ => rfl
  | _, _, .int _ => rfl
  | _, _, .str _ => rfl
  | _, _, .tup h k r => by rw [noErr]; exact RepL.noE hw r
  | _, _, .lst h k r => by rw [noErr]; exact RepL.noE hw r
  | _, _, .stup h c k r => by rw [noErr]; exact RepL.noE hw r
  | _, _, .xtup h k r => by rw [noErr]; exact RepL.noE hw r
  | _, _, .emp _ _ => rfl
  | _, _, .scr _ => rfl
  | _, _, .ref _ _ => rfl
  | _, _, .dref _ _ => rfl
  | _, _, .iref _ _ => rfl
  | _, _, .gl _ => rfl
  | _, _, .ty _ => rfl
  | _, _, .opq _ => rfl
  | _, _, .err0 h _ => by rw [hw] at h; cases h
  | _, _, .err2 h _ _ _ _ _ => by rw [hw] at h; cases h
theorem RepL.noE (hw : w.er = none) : ∀ {vs : List V} {ds : List D}, RepL w L H vs ds → noErrL ds = true
  | _, _, .nil => rfl
  | _, _, .cons h t => by rw [noErrL, Rep.noE hw h, RepL.noE hw t]; rfl
end
mutual
theorem Rep.toE {er : Option (Addr × Addr × Option Addr)} (hw : w.er = none) : ∀ {v : V} {d : D}, Rep w L H v d → Rep (w.hot er) L H v d
  | _, _, .non => .non
  | _, _, .bl b => .bl b
  | _, _, .int i => .int i
  | _, _, .str x => .str x
  | _, _, .tup h k r => .tup h k (RepL.toE hw r)
  | _, _, .lst h k r => .lst h k (RepL.toE hw r)
  | _, _, .stup h c k r => .stup h c k (RepL.toE hw r)
  | _, _, .xtup h k r => .xtup h k (RepL.toE hw r)
  | _, _, .emp h k => .emp h k
  | _, _, .scr h => .scr h
  | _, _, .ref h k => .ref h k
  | _, _, .dref h k => .dref h k
  | _, _, .iref h k => .iref h k
  | _, _, .gl h => .gl h
  | _, _, .ty n => .ty n
  | _, _, .opq h => .opq (OpqR.er.mp h)
  | _, _, .err0 h _ => by rw [hw] at h; cases h
  | _, _, .err2 h _ _ _ _ _ => by rw [hw] at h; cases h
theorem RepL.toE {er : Option (Addr × Addr × Option Addr)} (hw : w.er = none) : ∀ {vs : List V} {ds : List D}, RepL w L H vs ds → RepL (w.hot er) L H vs ds
  | _, _, .nil => .nil
  | _, _, .cons h t => .cons (Rep.toE hw h) (RepL.toE hw t)
end
mutual
theorem Rep.ofE {er : Option (Addr × Addr × Option Addr)} : ∀ {v : V} {d : D}, Rep (w.hot er) L H v d → noErr d = true → Rep w L H v d
  | _, _, .non, _ => .non
  | _, _, .bl b, _ => .bl b
  | _, _, .int i, _ => .int i
  | _, _, .str x, _ => .str x
  | _, _, .tup h k r, n => .tup h k (RepL.ofE r (by rw [noErr] at n; exact n))
  | _, _, .lst h k r, n => .lst h k (RepL.ofE r (by rw [noErr] at n; exact n))
  | _, _, .stup h c k r, n => .stup h c k (RepL.ofE r (by rw [noErr] at n; exact n))
  | _, _, .xtup h k r, n => .xtup h k (RepL.ofE r (by rw [noErr] at n; exact n))
  | _, _, .emp h k, _ => .emp h k
  | _, _, .scr h, _ => .scr h
  | _, _, .ref h k, _ => .ref h k
  | _, _, .dref h k, _ => .dref h k
  | _, _, .iref h k, _ => .iref h k
  | _, _, .gl h, _ => .gl h
  | _, _, .ty n, _ => .ty n
  | _, _, .opq h, _ => .opq (OpqR.er.mpr h)
  | _, _, .err0 h _, n => by simp [noErr] at n
  | _, _, .err2 h _ _ _ _ _, n => by simp [noErr] at n
theorem RepL.ofE {er : Option (Addr × Addr × Option Addr)} : ∀ {vs : List V} {ds : List D}, RepL (w.hot er) L H vs ds → noErrL ds = true → RepL w L H vs ds
  | _, _, .nil, _ => .nil
  | _, _, .cons h t, n => by
    rw [noErrL] at n
    have n2 := Bool.and_eq_true_iff.mp n
    exact .cons (Rep.ofE h n2.1) (RepL.ofE t n2.2)
end
theorem shp_er {w w' : Wd} {H : Hp} {a : Addr} {vs : List V} {o : Ob} (h : Shp w H a vs o) (e : w'.mg = w.mg) : Shp w' H a vs o := by
  cases o with
  | lst xs => exact h
  | dic kvs => exact h
  | dil kvs => exact h
  | dit kvs => exact h
  | ins x fs =>
    obtain ⟨C, dx, h1, h2⟩ := h
    exact ⟨C, dx, by rw [e]; exact h1, h2⟩
theorem Sto.toE {er : Option (Addr × Addr × Option Addr)} {S : Store} (hw : w.er = none) (s : Sto w L H S) : Sto (w.hot er) L H S :=
  ⟨s.len, s.nd, fun n o a h1 h2 => by
    have ob := s.ob n o a h1 h2
    obtain ⟨vs, hv, r⟩ := ob
    exact ⟨vs, shp_er hv rfl, r.toE hw⟩, s.pr, s.ap, s.tab⟩
theorem Sto.ofE {er : Option (Addr × Addr × Option Addr)} {L' : Ly} {H' : Hp} {S : Store} (hw : w.er = none) (s0 : Sto w L' H' S) (s : Sto (w.hot er) L H S) : Sto w L H S :=
  ⟨s.len, s.nd, fun n o a h1 h2 => by
    have ob := s.ob n o a h1 h2
    have hn : n < L'.c.length := by rw [s0.len]; exact (List.getElem?_eq_some_iff.mp h1).1
    have ob0 := s0.ob n o L'.c[n] h1 (by simp [hn])
    obtain ⟨vs, hv, r⟩ := ob
    obtain ⟨us, hu, r0⟩ := ob0
    exact ⟨vs, shp_er hv rfl, r.ofE (r0.noE hw)⟩, s.pr, s.ap, s.tab⟩
end
/-! ### isinstance of the error that is handled -/
section
variable {X : Cx} {W : XW} {w : Wd} {e : Expr} {es : List Expr} {fa : SA} {p pos : Pos}
/-- the classes of refusals, each straight under the same one -/
def errNames : List Str := ["NoBoard", "NoLine", "NoSwitching", "NoNumber", "Unlike", "NoNet", "NoPlace", "NoText", "NoRow", "TooMany"]
/-- what isinstance tells of them, asked of each other -/
def IsxOk (K : PySem.W.Frag) (mg : Str → Option Value) (x : Str) : Prop := ∀ C, mg x = some (.ref C) → (∀ y D, y ∈ errNames → mg y = some (.ref D) → PySem.W.kitOne K (.ref C) (.ref D) = some (decide (x = y))) ∧ PySem.W.kitOne K (.ref C) (.type "ValueError") = some true
def dIsx : List D → Store → Res D
  | [.err x _, .gl y], S => if x ∈ errNames ∧ y ∈ errNames then .ok (.bl (decide (x = y))) S else .no
  | [.err x _, .ty t], S => if x ∈ errNames ∧ t = "ValueError" then .ok (.bl true) S else .no
  | _, _ => .no
/-- isinstance of the error that is handled, whether it has a dict or none -/
def rIsX (K : PySem.W.Frag) (C a : Addr) (od : Option Addr) : List V → Hp → VK → Prop := fun xs H Q => ∃ (c : V) (cv : Value) (b : Bool), xs = [.ref a, c] ∧ (∀ u, RelV c u → u = cv) ∧ PySem.W.kitOne K (.ref C) cv = some b ∧ (∀ d, od = some d → ∃ fs, H d = some (.xd fs)) ∧ Q (.bl b) H
theorem inst_at {a C : Addr} {oe : Obj} {od : Option Addr} {P : Program} {w : World} {H : Hp} {h : Heap} (hget : h.get? a = some oe) (hz : Zc (.ref C) od oe) (hf : ∃ vs, oe.data = .fields vs) (hok : HOk P w H h) (hd : ∀ d, od = some d → ∃ fs, H d = some (.xd fs)) : ∃ odo, PySem.W.InstAt h a oe C odo := by
  obtain ⟨vs, hv⟩ := hf
  have nc : PySem.W.notCls oe = true := by unfold PySem.W.notCls; rw [hv] <;> rfl
  cases od with
  | none => exact ⟨none, hget, hz.1, nc, by rw [hz.2]; trivial⟩
  | some d =>
    obtain ⟨fs, hx⟩ := hd d rfl
    obtain ⟨mA, hns, _⟩ : ObjOk P w H h d (.xd fs) := hok d _ hx
    obtain ⟨odo, ho, _⟩ := lookIn_ns hns
    exact ⟨some odo, hget, hz.1, nc, by rw [hz.2]; exact ho⟩
theorem call_isP {a C : Addr} {oe : Obj} {od : Option Addr} (hp : (a, oe) ∈ X.pn) (EC : ExcC X.K C) (hz : Zc (.ref C) od oe) (hf : ∃ vs, oe.data = .fields vs) : CallR X (.builtin "isinstance") (rIsX X.K C a od) := by
  intro pins s σ H xs us Q I r h
  obtain ⟨c, cv, b, rfl, hcv, e, hd, q⟩ := h
  cases r with
  | cons rx rr =>
    cases rr with
    | cons rt rr =>
      cases rr
      cases rx
      have ec := hcv _ rt
      subst ec
      obtain ⟨odo, J⟩ := inst_at (I.pin (a, oe) (List.mem_append_left _ hp)).1 hz hf I.hok hd
      have hcl : (PySem.W.clsIn X.K C).isSome = true := by
        obtain ⟨cd, hc, _⟩ := PySem.W.any_some EC.hd
        rw [hc]
        rfl
      exact PySem.W.kia_one (PySem.W.kitx_exc hcl EC.hg EC.hk EC.hs EC.ha EC.hn EC.ht EC.hm) I.kIn J e (fun z => nomatch z) fun tk => ⟨.bl b, H, I.kept (t' := tk) fun _ _ z => z, rfl, q⟩
theorem cd_isx {a C : Addr} {od : Option Addr} (hw : w.er = some (a, C, od)) (hx : ∀ x, x ∈ errNames → IsxOk w.K w.mg x) : CallD w (rIsX w.K C a od) dIsx := by
  intro W L H S vs ds Q st r p
  revert r p
  refine pair_cases (P := fun ds => RepL w L H vs ds → Post w W L H (QV w Q) (dIsx ds S) → _) ?_ ?_ ?_ ?_ ds
  · intro r p; exact (show False from p).elim
  · intro d r p; exact (show False from by cases d <;> exact p).elim
  · intro d e r p
    obtain ⟨v, u, rfl, rv, ru⟩ := rep2 r
    have main : ∀ (x : Str) (fs : List D), v = .ref a → w.mg x = some (.ref C) → (∀ d, od = some d → ∃ fs, H d = some (.xd fs)) → Post w W L H (QV w Q) (dIsx [.err x fs, e] S) → rIsX w.K C a od [v, u] H Q := by
      intro x fs hv hm hd p2
      clear p
      subst hv
      cases ru with
      | @gl b y h2 =>
        replace p2 : Post w W L H (QV w Q) (if x ∈ errNames ∧ y ∈ errNames then .ok (.bl (decide (x = y))) S else .no) := p2
        by_cases hy : x ∈ errNames ∧ y ∈ errNames
        · rw [if_pos hy] at p2
          exact ⟨.ref b, .ref b, decide (x = y), rfl, fun u hu => hu, (hx x hy.1 C hm).1 y b hy.2 h2, hd, p2.here st _ (.bl _)⟩
        · rw [if_neg hy] at p2
          exact p2.elim
      | ty t =>
        replace p2 : Post w W L H (QV w Q) (if x ∈ errNames ∧ t = "ValueError" then .ok (.bl true) S else .no) := p2
        by_cases hy : x ∈ errNames ∧ t = "ValueError"
        · rw [if_pos hy] at p2
          obtain ⟨hxe, rfl⟩ := hy
          exact ⟨.ty "ValueError", .type "ValueError", true, rfl, fun u hu => hu, (hx x hxe C hm).2, hd, p2.here st _ (.bl _)⟩
        · rw [if_neg hy] at p2
          exact p2.elim
      | _ => exact (show False from p2).elim
    cases rv with
    | @err0 a' C' x h hm =>
      rw [hw] at h
      cases h
      exact main x [] rfl hm (fun d z => nomatch z) p
    | @err2 a' C' d' x _ _ _ _ h hm hd _ _ _ =>
      rw [hw] at h
      cases h
      exact main x _ rfl hm (fun d z => by cases z; exact ⟨_, hd⟩) p
    | _ => exact (show False from by cases e <;> exact p).elim
  · intro d e f r r' p; exact (show False from by cases d <;> cases e <;> exact p).elim
theorem de_isx {a C : Addr} {oe : Obj} {od : Option Addr} (hp : (a, oe) ∈ X.pn) (EC : ExcC X.K C) (hz : Zc (.ref C) od oe) (hf : ∃ vs, oe.data = .fields vs) (hw : W.er = some (a, C, od)) (hx : ∀ x, x ∈ errNames → IsxOk X.K X.mg x)
    (hm : X.mg "isinstance" = none) (ha : DA X W (e :: es) fa) (hg : Gl X "isinstance" := by rfl) (he : starEach (e :: es) X.env = (false, eval e X.env) :: starEach es X.env := by rfl) (hpl : (backTo pos (starEach es X.env)).any (·.1) = false := by rfl) :
    DE X W (.Call (.Name "isinstance" p) (e :: es) [] pos) (eCB dIsx fa) := de_callB (call_isP hp EC hz hf) (cd_isx (w := wd X W) hw hx) hm (by decide +kernel) ha hg (by decide) (by decide) he hpl
/-! ### a field of the error that is handled -/
def eFld (n : Str) (fe : SE) : SE := fun ρ S => (fe ρ S).bind fun d S1 => match d with
  | .err x [y, z] => if x = "TooMany" then (if n = "many" then .ok y S1 else if n = "most" then .ok z S1 else .no) else .no
  | _ => .no
theorem de_fld {a C : Addr} {oe : Obj} {od : Option Addr} {n : Str} {fe : SE} (hp : (a, oe) ∈ X.pn) (EC : ExcC X.K C) (hz : Zc (.ref C) od oe) (hf : ∃ vs, oe.data = .fields vs) (hw : W.er = some (a, C, od))
    (hno : ∀ D, X.mg "TooMany" = some (.ref D) → PySem.W.findIn X.K (.ref D) n = some none) (he : DE X W e fe) (hb : attributeBase e n X.env (eval e X.env) = eval e X.env := by rfl) : DE X W (.Attribute e n pos) (eFld n fe) := by
  obtain ⟨t, q, r⟩ := he
  refine ⟨fun σ H Q => t σ H fun x H1 => x = .ref a ∧ X.mg "TooMany" = some (.ref C) ∧ ∃ (dd : Addr) (fs : List (Str × V)) (v : V), od = some dd ∧ H1 dd = some (.xd fs) ∧ fs.lookup n = some v ∧ Q v H1, ⟨fun pins s σ H Q I h => ?_⟩, fun ρ σ L H S Q er st p => r ρ σ L H S _ er st (p.step fun d S1 L1 H1 e1 s1 p1 v rv => ?_)⟩
  · refine attr_of hb (thn (q.run pins s σ H _ I h) fun u s1 hh => ?_)
    obtain ⟨x, H1, I1, rx, ex, ec, dd, fs, v, ed, ea, l, qq⟩ := hh
    subst ex
    obtain rfl : u = Value.ref a := rx
    subst ed
    have hget := (I1.pin (a, oe) (List.mem_append_left _ hp)).1
    obtain ⟨mA, hns, hr⟩ : ObjOk X.prog X.w H1 s1.heap dd (.xd fs) := I1.hok dd _ ea
    obtain ⟨odo, ho, hl⟩ := lookIn_ns hns
    obtain ⟨u, hu, ru⟩ := RelO.some_of (v := v) (o := mA n) (by rw [← l]; exact hr n)
    obtain ⟨vs, hd⟩ := hf
    have J : PySem.W.InstAt s1.heap a oe C (some odo) := ⟨hget, hz.1, by unfold PySem.W.notCls; rw [hd] <;> rfl, by rw [hz.2]; exact ho⟩
    exact HandSPX.exc_get I1.kIn J EC.hg EC.hk EC.hs (PySem.W.findObj_own EC.hd (hno C ec) rfl (by rw [hl, hu])) (handed_of ru) ⟨v, H1, I1.tok _, ru, qq⟩
  · cases rv with
    | @err2 a' C' d' x u v y z h hm hd _ ru rv' =>
      rw [show (wd X W).er = W.er from rfl, hw] at h
      cases h
      replace p1 : Post (wd X W) W L1 H1 (QV (wd X W) Q) (if x = "TooMany" then (if n = "many" then .ok y S1 else if n = "most" then .ok z S1 else .no) else .no) := p1
      by_cases hx : x = "TooMany"
      · rw [if_pos hx] at p1
        subst hx
        refine ⟨rfl, hm, d', [("most", v), ("many", u)], ?_⟩
        by_cases h1 : n = "many"
        · rw [if_pos h1] at p1
          subst h1
          exact ⟨u, rfl, hd, by rfl, p1.here s1 _ ru⟩
        · rw [if_neg h1] at p1
          by_cases h2 : n = "most"
          · rw [if_pos h2] at p1
            subst h2
            exact ⟨v, rfl, hd, by rfl, p1.here s1 _ rv'⟩
          · rw [if_neg h2] at p1
            exact p1.elim
      · rw [if_neg hx] at p1
        exact p1.elim
    | _ => exact (show False from p1).elim
/-! ### repr of a number, with no guards asked -/
def rReprI : List V → Hp → VK → Prop := fun xs H Q => ∃ i, xs = [.int i] ∧ okRepr (.int i) = true ∧ Q (.str (PyData.int i).shown) H
theorem call_reprI : CallR X (.builtin "repr") rReprI := by
  intro pins s σ H vs us Q I r h
  obtain ⟨i, rfl, hk, q⟩ := h
  unfold okRepr at hk
  simp only [Bool.and_eq_true, Nat.ble_eq, Bool.not_eq_true'] at hk
  cases r with
  | cons rv rr =>
    cases rr
    obtain ⟨t, rfl⟩ := rv
    exact P.repr_of_int (by simpa [PyData.showable] using hk.1.1.1) ⟨.str _, H, I.tok _, ⟨_, rfl⟩, q⟩
def dReprI : List D → Store → Res D
  | [.int i], S => if okRepr (.int i) = true then .ok (.str (PyData.int i).shown) S else .no
  | _, _ => .no
theorem cd_reprI : CallD w rReprI dReprI := by
  intro W L H S vs ds Q st r p
  match ds, p with
  | [d], p =>
    obtain ⟨v, rfl, rv⟩ := rep1 r
    cases rv with
    | int i =>
      replace p : Post w W L H (QV w Q) (if okRepr (.int i) = true then .ok (.str (PyData.int i).shown) S else .no) := p
      by_cases hk : okRepr (.int i) = true
      · rw [if_pos hk] at p
        exact ⟨i, rfl, hk, p.here st _ (.str _)⟩
      · rw [if_neg hk] at p
        exact p.elim
    | _ => exact (show False from p).elim
  | [], p => exact (show False from p).elim
  | _ :: _ :: _, p => exact (show False from by rename_i d _ _; cases d <;> exact p).elim
theorem de_reprI (hm : X.mg "repr" = none) (ha : DA X W (e :: es) fa) (hg : Gl X "repr" := by rfl) (he : starEach (e :: es) X.env = (false, eval e X.env) :: starEach es X.env := by rfl) (hpl : (backTo pos (starEach es X.env)).any (·.1) = false := by rfl) :
    DE X W (.Call (.Name "repr" p) (e :: es) [] pos) (eCB dReprI fa) := de_callB call_reprI cd_reprI hm (by decide +kernel) ha hg (by decide) (by decide) he hpl
end
/-! ### a def called where an error is handled -/
section
variable {P : Program} {w : World} {K : PySem.W.Frag} {mg : Str → Option Value} {base : Heap} {T : Tb}
/-- the def runs, the pinned error is known in its body -/
theorem run_hot {x qual : Str} {st : Stmt} {f : Addr} {fd : FuncData} {N ps : List Str} {k : Nat} {body : SS} {lv : Store → D → Store → Res D} (hlv : LvOk lv) (Fn : Fun K x qual st f fd) (Sc : FnScope N ps (defScope st)) {er : Option (Addr × Addr × Option Addr)}
    {A : Around} {outer : List Env} {s : Shared} {H : Hp} {q : Addr × Obj} {args : Args} {us : List Value} {vs : List V} {Q : VK} {E : XK} (hr : L2H.RoomH (k + 1) A) (e0 : Env0 P w K mg base A outer s H) (hpin : L2H.PinOk outer H s q)
    (hb : BindsTo s fd args (ps.zip us)) (rv : Vals vs us) (hl : vs.length = ps.length)
    (hbody : ∀ cdv : Value, L2H.RoomH k (A.deeper (envOfC qual (defScope st) s.heap.objs.size f cdv)) → DSs (L2H.cxH C8.CX0 P w K mg base N qual (defScope st) f cdv A outer s H E q).nox ⟨T, none, er⟩ (defBody st) body)
    {ds : List D} {L : Ly} {S : Store} (r : RepL ⟨K, mg, T, er⟩ L H vs ds) (sto : Sto ⟨K, mg, T, er⟩ L H S) (post : Post ⟨K, mg, T, er⟩ ⟨T, none, er⟩ L H (QV ⟨K, mg, T, er⟩ Q) (fnD ps.length N.length lv body ds S)) :
    codeAny (model P w) A (.call (.ref f) args) (CR C8.CX0 outer P w H s Q E) s := by
  obtain ⟨oc, od, kV, doc, pm, an, cdv, ct, osl, rfl, lk, hcd⟩ := Fn.ex
  have KX : K.In s.heap := e0.mod.kin.keeps fun b o e => (e0.bs b o e).1
  have lim : s.heap.NoLimit := e0.mod.nolimit.keeps fun b o e => (e0.bs b o e).1
  have kind : ∀ y ∈ ps.zip us, (defScope st).names.lookup y.1 = some .local ∨ ((defScope st).names.lookup y.1 = some .cell ∧ ((cellsFrom (s.heap.objs.size + 1) (defScope st).names []).lookup y.1).isSome = true) := by
    rintro ⟨n, v⟩ hy
    rcases Sc.par n (List.of_mem_zip hy).1 with z | z
    · exact .inl z
    · exact .inr ⟨z, PySem.W.cellsFrom_some _ _ _ (.inl z)⟩
  refine codeAny_call_function hr.depth (KX _ _ lk) rfl Sc.co Sc.gen rfl (PySem.W.codeRec_of KX hcd) (hb _ _ _ _ (wpAny_newFunctionEnv_cells Sc.kind kind fun env he s1 x1 => ?_))
  subst he
  refine ⟨lim.keeps x1.toInCall.keep, codeAny_func ?_⟩
  obtain ⟨t, pt, rt⟩ := hbody cdv (hr.deeper _)
  have J : Inv (L2H.cxH C8.CX0 P w K mg base N qual (defScope st) f cdv A outer s H E q) [] (L2.start N vs) H s1 := L2H.inv_startH Sc hpin e0 hl rv x1
  have reading : t { nx := fun _ H' => Q .non H', rt := Q } (L2.start N vs) H := by
    refine rt (startD N.length ds) _ L H S _ (start_env r) sto ?_
    unfold fnD at post
    rw [if_pos (by rw [← r.len]; exact hl)] at post
    cases eb : body (startD N.length ds) S with
    | no => rw [eb] at post; exact (show False from post).elim
    | exc y fs S1 =>
      rw [eb] at post
      replace post : Post ⟨K, mg, T, er⟩ ⟨T, none, er⟩ L H (QV ⟨K, mg, T, er⟩ Q) (leaveX S y fs S1) := post
      unfold leaveX at post
      split at post
      · exact (show False from post).elim
      · split at post
        · exact (show False from post).elim
        · exact (show False from post).elim
    | ok fl S1 =>
      rw [eb] at post
      intro L1 H1 e1 s1'
      cases fl with
      | rt d => exact fun v rv' => hlv _ _ L L1 H H1 S S1 d v Q sto e1 s1' rv' post
      | nx ρ => exact fun σ _ => hlv _ _ L L1 H H1 S S1 .non .non Q sto e1 s1' .non post
      | bk ρ => exact (show False from post).elim
      | ct ρ => exact (show False from post).elim
  refine wpAny_mono (pt.nox.run [] s1 (L2.start N vs) H _ J reading) (fun fl s' hs => ?_) fun e s' hs => hs
  match fl, hs with
  | .ret u, hs =>
    obtain ⟨v, σ', H', J', rv', q'⟩ := hs
    exact ⟨v, H', J'.os, J'.bare, J'.base, J'.hok, rv', q'⟩
  | .next, hs =>
    obtain ⟨σ', H', J', q'⟩ := hs
    exact ⟨.non, H', J'.os, J'.bare, J'.base, J'.hok, rfl, q'⟩
  | .brk, hs =>
    obtain ⟨_, _, _, q'⟩ := hs
    exact q'.elim
  | .cont, hs =>
    obtain ⟨_, _, _, q'⟩ := hs
    exact q'.elim
end
end Ls
/-! LsL: what is said of a lambda's call. -/
namespace Ls
open PySem PySem.Spec PyProof.Rows L2
section
variable {P : Program} {w : World} {K : PySem.W.Frag} {mg : Str → Option Value} {base : Heap} {T : Tb}
/-- the def that tells an error's kind, called in the except suite -/
def HotK (P : Program) (w : World) (K : PySem.W.Frag) (mg : Str → Option Value) (base : Heap) (T : Tb) (k : Nat) (f : Addr) (fd : FuncData) (y : Str) (kd : Str → List D → Option Str) : Prop :=
  ∀ (a C : Addr) (oe : Obj) (od : Option Addr) (x z : Str) (fs : List D), Zc (.ref C) od oe → (∃ vs, oe.data = .fields vs) → mg x = some (.ref C) → kd x fs = some z →
  ∀ (A : Around) (outer : List Env) (s : Shared) (H : Hp) (u : Value) (Q : VK) (L : Ly) (S : Store), L2H.RoomH k A → Env0 P w K mg base A outer s H → L2H.PinOk outer H s (a, oe) → BindsTo s fd ⟨[u], []⟩ [(y, u)] → RelV (.ref a) u → Sto ⟨K, mg, T, none⟩ L H S → ExF ⟨K, mg, T, none⟩ L H od fs →
    (∀ L' H', Ex L H L' H' → Sto ⟨K, mg, T, none⟩ L' H' S → Q (.str z) H') → codeAny (model P w) A (.call (.ref f) ⟨[u], []⟩) (CR C8.CX0 outer P w H s Q C8.E0) s
theorem hotK_of {x qual y : Str} {st : Stmt} {f : Addr} {fd : FuncData} {N : List Str} {k : Nat} {body : SS} {lv : Store → D → Store → Res D} {kd : Str → List D → Option Str} (hlv : LvOk lv) (Fn : Fun K x qual st f fd) (Sc : FnScope N [y] (defScope st))
    (hbody : ∀ (a C : Addr) (oe : Obj) (od : Option Addr) (n : Str), Zc (.ref C) od oe → (∃ vs, oe.data = .fields vs) → mg n = some (.ref C) → n ∈ errNames → ∀ (cdv : Value) (A : Around) (outer : List Env) (s : Shared) (H : Hp), L2H.RoomH k (A.deeper (envOfC qual (defScope st) s.heap.objs.size f cdv)) →
      DSs (L2H.cxH C8.CX0 P w K mg base N qual (defScope st) f cdv A outer s H C8.E0 (a, oe)).nox ⟨T, none, some (a, C, od)⟩ (defBody st) body)
    (hkd : ∀ n fs z, kd n fs = some z → n ∈ errNames ∧ ∀ S, fnD 1 N.length lv body [.err n fs] S = .ok (.str z) S) : HotK P w K mg base T (k + 1) f fd y kd := by
  intro a C oe od n z fs hz hf hm hk A outer s H u Q L S hr e0 hpin hb ru sto hx hQ
  obtain ⟨hn, hF⟩ := hkd n fs z hk
  have re : Rep ⟨K, mg, T, some (a, C, od)⟩ L H (.ref a) (.err n fs) := by
    match fs, hx with
    | [], hx =>
      obtain rfl : od = none := hx
      exact .err0 rfl hm
    | [_, _], ⟨d, va, vb, hd, hH, nd, r1, r2⟩ =>
      subst hd
      exact .err2 rfl hm hH nd (r1.toE (w := ⟨K, mg, T, none⟩) rfl) (r2.toE (w := ⟨K, mg, T, none⟩) rfl)
  refine run_hot (er := some (a, C, od)) (T := T) hlv Fn Sc (us := [u]) (vs := [.ref a]) hr e0 hpin hb (.cons ru .nil) rfl (fun cdv hr' => hbody a C oe od n hz hf hm hn cdv A outer s H hr') (ds := [.err n fs]) (L := L) (S := S) (.cons re .nil) (sto.toE (w := ⟨K, mg, T, none⟩) rfl) ?_
  show Post _ _ _ _ _ (fnD 1 N.length lv body [.err n fs] S)
  rw [hF]
  intro L' H' ex st v rv
  cases rv
  exact hQ L' H' ex (Sto.ofE (w := ⟨K, mg, T, none⟩) rfl sto st)
end
section
variable {Z : Cx} {T : Tb} {k i : Nat} {f a : Addr} {fd : FuncData} {y n m : Str} {kd : Str → List D → Option Str} {oe : Obj} {cls : Value} {d : Option Addr} {pn : List (Addr × Obj)} {p p' pos : Pos}
/-- what is owed where the kind is asked -/
def tKind (mg : Str → Option Value) (w : Wd) (kd : Str → List D → Option Str) (i : Nat) (a : Addr) (cls : Value) (d : Option Addr) : TE := fun σ H Q => σ[i]? = some (some (.ref a)) ∧ ∃ (C : Addr) (x z : Str) (fs : List D) (L : Ly) (S : Store), cls = .ref C ∧ mg x = some (.ref C) ∧ kd x fs = some z ∧ Sto w L H S ∧ ExF w L H d fs ∧ ∀ L' H', Ex L H L' H' → Sto w L' H' S → Q (.str z) H'
theorem pe_kind (HK : HotK Z.prog Z.w Z.K Z.mg Z.base T k f fd y kd) (hr : L2H.RoomH k Z.A) (hz : Zc cls d oe) (hf : ∃ vs, oe.data = .fields vs) (hg : Gl Z m) (hm : Z.mg m = some (.ref f)) (hk : PySem.W.keepIn Z.K (.ref f) = true) (hb : Binds Z.K fd [y] [])
    (hN : Z.N[i]? = some n) (hv : Vis Z.env.scope n) (hdb : (m == ("__debug__" : Str)) = false := by decide) (hd : (n == ("__debug__" : Str)) = false := by decide) (hcd : (n == ("__classdict__" : Str)) = false := by decide) :
    PE (Z.suite a ((a, oe) :: pn)) (.Call (.Name m p) [.Name n p'] [] pos) (tKind Z.mg ⟨Z.K, Z.mg, T, none⟩ kd i a cls d) := by
  refine ⟨fun pins s σ H Q I h => ?_⟩
  obtain ⟨hs, C, x, z, fs, L, S, rfl, hx, hkd, sto, hxf, hQ⟩ := h
  refine wpAny_Call_Name_kw (ld_glob I hg hm (PySem.W.callWith_K (h₀ := Z.base) I.ok.mod.kin hk (thn ((pa_cons (X := Z.suite a ((a, oe) :: pn)) (pe_var (pos := p') (i := i) hN hv hd hcd) pa_nil (by rfl)).run pos pins s σ H (fun vs H1 => vs = [.ref a] ∧ H1 = H) I ⟨.ref a, hs, rfl, rfl⟩) fun us s1 hh => ?_) (by rfl) (by rfl)) hdb)
  obtain ⟨vs, H1, I1, rv, rfl, rfl⟩ := hh
  refine ⟨I1.kIn, ?_⟩
  cases rv with
  | cons ru rr =>
    cases rr
    rename_i u
    have P1 := I1.pin (a, oe) (List.mem_append_left _ List.mem_cons_self)
    have hpin : L2H.PinOk (Z.suite a ((a, oe) :: pn)).stack H1 s1 (a, oe) := ⟨P1.1, P1.2.1, fun hm => (List.mem_cons.mp (I1.stkSub a hm)).elim P1.2.2.1 P1.2.2.2.1, P1.2.2.2.2⟩
    have b := hb s1 [u] I1.kIn rfl
    refine wpAny_call (codeAny_mono (HK a C oe d x z fs hz hf hx hkd (Z.suite a ((a, oe) :: pn)).A (Z.suite a ((a, oe) :: pn)).stack s1 H1 u Q L S ⟨hr.dp, hr.un⟩ I1.env0 hpin b ru sto hxf hQ) fun r s' hq => ?_)
    cases r with
    | error e => exact (show False from hq).elim
    | ok fl =>
      cases fl with
      | ret u => exact I1.after hq
      | next => exact False.elim hq
      | brk => exact False.elim hq
      | cont => exact False.elim hq
end
theorem pe_weak {X : Cx} {e : Expr} {t : TE} (h : PE X e t) : PE X e (fun σ H Q => ∃ Q1, t σ H Q1 ∧ ∀ v H1, Q1 v H1 → Q v H1) := by
  refine ⟨fun pins s σ H Q I hh => ?_⟩
  obtain ⟨Q1, ht, hq⟩ := hh
  exact thn (h.run pins s σ H Q1 I ht) fun u s1 ⟨v, H1, I1, r1, q1⟩ => ⟨v, H1, I1, r1, hq v H1 q1⟩
theorem pss_long {X : Cx} {b : List Stmt} {t : TS} (h : PSs X b t) : PSs X b (fun D σ H => σ.length = X.N.length → t D σ H) :=
  ⟨fun pins s σ H D I hh => h.run pins s σ H D I (hh I.len)⟩
/-- what is wanted of an error -/
def kindX (mg : Str → Option Value) (w : Wd) (kd : Str → List D → Option Str) (Q : VK) : XK := fun cls d H' => ∃ (C : Addr) (x z : Str) (fs : List D) (L : Ly) (S : Store), cls = .ref C ∧ mg x = some (.ref C) ∧ kd x fs = some z ∧ Sto w L H' S ∧ ExF w L H' d fs ∧ ∀ L' H'', Ex L H' L' H'' → Sto w L' H'' S → Q (.str z) H''
def TSaid (mg : Str → Option Value) (w : Wd) (kd : Str → List D → Option Str) : (XK → Hp → VK → Prop) → Hp → VK → Prop := fun tl H Q => tl (kindX mg w kd Q) H (fun _ H' => Q (.str "told") H')
section
variable {X : Cx} {T : Tb} {k : Nat} {f0 CS g : Addr} {fd : FuncData} {x y a v n e m q : Str} {kd : Str → List D → Option Str} {sg : Scope} {cdg : Value} {j : Nat} {p1 p2 p3 p4 p5 p6 p7 p8 p9 p10 p11 p12 p13 p14 p15 p16 : Pos}
theorem said_gives (HK : HotK X.prog X.w X.K X.mg X.base T k f0 fd y kd) (hr : L2H.RoomH (k + 1) X.A) (hme : X.mg e = some (.ref CS)) (hmm : X.mg m = some (.ref f0)) (hk : PySem.W.keepIn X.K (.ref f0) = true) (hb : Binds X.K fd [y] [])
    (hup : ∀ z fs C z1, kd z fs = some z1 → X.mg z = some (.ref C) → PySem.W.exmOne X.K (.ref C) (.ref CS) = some true)
    (hN : ([a, v, n] : List Str).Nodup) (hlv : sg.names.lookup v = some .local) (hln : sg.names.lookup n = some .local) (hge : sg.names.lookup e = some .globalImplicit) (hgm : sg.names.lookup m = some .globalImplicit)
    (hde : (e == ("__debug__" : Str)) = false) (hdm : (m == ("__debug__" : Str)) = false) (hdn : (n == ("__debug__" : Str)) = false) (hcn : (n == ("__classdict__" : Str)) = false) (hdv : (v == ("__debug__" : Str)) = false) (hcv : (v == ("__classdict__" : Str)) = false) :
    LamX.GivesTo X [a, v, n] x sg g cdg [.Assign [.Name v p1] (.Constant (.str "told") j p2) p3, .Try [.Expr (.Call (.Name a p4) [] [] p5) p6] [.ExceptHandler (some (.Name e p7)) (some n) [.Assign [.Name v p8] (.Call (.Name m p9) [.Name n p10] [] p11) p12] p13] [] [] p14, .Return (some (.Name v p15)) p16] a q
      (TSaid X.mg ⟨X.K, X.mg, T, none⟩ kd) := by
  intro f c' s H Q tl act hc h
  have hgl : Gl (cxOf C8.CX0 X.prog X.w X.K X.mg X.base [a, v, n] x sg g cdg X.A X.stack s H C8.E0).nox e := hge
  have hgk : Gl (cxOf C8.CX0 X.prog X.w X.K X.mg X.base [a, v, n] x sg g cdg X.A X.stack s H C8.E0).nox m := hgm
  have hrz : L2H.RoomH k (cxOf C8.CX0 X.prog X.w X.K X.mg X.base [a, v, n] x sg g cdg X.A X.stack s H C8.E0).nox.A := hr.deeper _
  refine ⟨_, pss_cons (ps_set (X := (cxOf C8.CX0 X.prog X.w X.K X.mg X.base [a, v, n] x sg g cdg X.A X.stack s H C8.E0).nox) (i := 1) hN rfl (.inl hlv) pe_str rfl (.inr hlv))
    (pss_cons (ps_try_as (X := (cxOf C8.CX0 X.prog X.w X.K X.mg X.base [a, v, n] x sg g cdg X.A X.stack s H C8.E0).nox) (i := 2) (c := .ref CS) (Wout := fun _ _ _ _ => False)
      (tb := fun W D σ H => ∃ (Ech : XK) (Q1 : VK), (∀ cls d σ' H', Ech cls d H' → W cls d σ' H') ∧ σ[0]? = some (some (.ref f)) ∧ H c' = some (LamX.CodeO c' q) ∧ tl Ech H Q1 ∧ ∀ u H1, Q1 u H1 → D.nx σ H1)
      (ts := fun a' cls d => fun D σ H => σ.length = 3 → tAsg (tKind X.mg ⟨X.K, X.mg, T, none⟩ kd 2 a' cls d) (gName 1) D σ H)
      rfl rfl hN rfl hln ⟨hgl, hde, .inl hme⟩ LamX.takes0 (fun W pn xe tk _ => ?_)
      (fun a' oe cls d pn hz hf => pss_long (pss_one (ps_set (X := (cxOf C8.CX0 X.prog X.w X.K X.mg X.base [a, v, n] x sg g cdg X.A X.stack s H C8.E0).nox.suite a' ((a', oe) :: pn)) (i := 1) hN rfl (.inl hlv) (pe_kind (Z := (cxOf C8.CX0 X.prog X.w X.K X.mg X.base [a, v, n] x sg g cdg X.A X.stack s H C8.E0).nox) HK hrz hz hf hgk hmm hk hb rfl (.inl hln) hdm hdn hcn) rfl (.inr hlv)))))
    (pss_one (ps_ret (pe_var (i := 1) rfl (.inl hlv) hdv hcv)))), ?_⟩
  · refine ⟨fun pins s' σ H' D I h' => ?_⟩
    obtain ⟨Ech, Q1, hW, h1, h2, h3, h4⟩ := h'
    have hp := pe_weak (act W pn xe Ech p4 p5 tk hW)
    exact (pss_one (ps_expr (pos := p6) hp rfl)).run pins s' σ H' D I ⟨Q1, ⟨h1, h2, h3⟩, h4⟩
  · refine ⟨kindX X.mg ⟨X.K, X.mg, T, none⟩ kd Q, fun _ H' => Q (.str "told") H', ?_, rfl, hc, h, fun u H1 hq => ⟨.str "told", rfl, hq⟩⟩
    rintro cls d σ' H' ⟨C, x', z, fs, L, S, rfl, hx, hkd, sto, hxf, hQ⟩
    refine ⟨true, hup x' fs C z hkd hx, fun _ a' _ hl => ?_, fun z => Bool.noConfusion z⟩
    have hl' : σ'.length = 3 := by simpa using hl
    refine ⟨by rw [List.getElem?_set_self (by omega)], C, x', z, fs, L, S, rfl, hx, hkd, sto, hxf, fun L' H'' ex st => ⟨.str z, ?_, hQ L' H'' ex st⟩⟩
    rw [List.getElem?_set_ne (by decide), List.getElem?_set_self (by simp; omega)]
end
/-! ### x(e, ..) where x is a name that holds a def -/
/-- the def that the module's name x holds, by its function of data -/
def Held (b : Bool) (X : Cx) (W : XW) (k : Nat) (x : Str) (F : List D → Store → Res D) : Prop :=
  ∃ (f : Addr) (fd : FuncData) (ps : List Str), X.mg x = some (.ref f) ∧ FnQ b X.prog X.w X.K X.mg X.base (L2.CX X.prog X.w) k f fd ps (spF (wd X W) ps.length F) ∧ PySem.W.keepIn X.K (.ref f) = true ∧ Binds X.K fd ps [] ∧ ArF ps.length F
def eCallL (i : Nat) (tab : Str → Option (List D → Store → Res D)) (fa : SA) : SE := fun ρ S => match ρ[i]? with
  | some (some (.gl x)) => (match tab x with
    | some F => (fa ρ S).bind F
    | none => .no)
  | _ => .no
section
variable {X : Cx} {W : XW} {b : Bool}
theorem de_callL {k i : Nat} {x : Str} {tab : Str → Option (List D → Store → Res D)} {e : Expr} {es : List Expr} {fa : SA} {p pos : Pos} (hr : RmQ b k X.A) (ht : ∀ y F, tab y = some F → Held b X W k y F) (tk : Takes X fun cls d _ H => W.wish cls d H) (ha : DA X W (e :: es) fa)
    (hN : X.N[i]? = some x := by rfl) (hv : Vis X.env.scope x := by first | exact Or.inl rfl | exact Or.inr (Or.inl rfl) | exact Or.inr (Or.inr rfl)) (hd : (x == ("__debug__" : Str)) = false := by decide) (hcd : (x == ("__classdict__" : Str)) = false := by decide)
    (he : starEach (e :: es) X.env = (false, eval e X.env) :: starEach es X.env := by rfl) (hpl : (backTo pos (starEach es X.env)).any (·.1) = false := by rfl) :
    DE X W (.Call (.Name x p) (e :: es) [] pos) (eCallL i tab fa) := by
  obtain ⟨t, q, r⟩ := ha
  refine ⟨fun σ H Q => ∃ a y F, σ[i]? = some (some (.ref a)) ∧ X.mg y = some (.ref a) ∧ tab y = some F ∧ t σ H fun vs H1 => ∃ ds L S, RepL (wd X W) L H1 vs ds ∧ Sto (wd X W) L H1 S ∧ Post (wd X W) ⟨W.T, some W.wish, W.er⟩ L H1 (QV (wd X W) Q) (F ds S), ⟨fun pins s σ H Q I h => ?_⟩, fun ρ σ L H S Q er st p => ?_⟩
  · obtain ⟨a, y, F, hs, hm, hF, h⟩ := h
    obtain ⟨f, fd, ps, hm2, G, hk, hb, har⟩ := ht y F hF
    rw [hm] at hm2
    cases hm2
    refine wpAny_Call_Name_kw (thn ((pe_var (pos := p) (i := i) hN hv hd hcd).run pins s σ H (fun v H1 => v = .ref a ∧ H1 = H) I ⟨.ref a, hs, rfl, rfl⟩) fun u s1 ⟨v, H1, I1, r1, q1⟩ => ?_)
    obtain ⟨rfl, rfl⟩ := q1
    obtain rfl : u = Value.ref a := r1
    refine PySem.W.callWith_K (h₀ := X.base) I.ok.mod.kin hk (thn (q.run pos pins s1 σ H1 _ I1 h) fun us s2 hh => ?_) he hpl
    obtain ⟨vs, H2, I2, rv, ds, L, S, rs, sto, post⟩ := hh
    refine ⟨I2.kIn, run_G G hr hb (passes_call tk fun _ _ _ _ h => h) I2 rv ?_⟩
    by_cases hl : ds.length = ps.length
    · exact ⟨rs.len.trans hl, ds, L, S, rs, sto, post⟩
    · rw [har ds S hl] at post
      exact (show False from post).elim
  · unfold eCallL at p
    cases e1 : ρ[i]? with
    | none => simp only [e1] at p; exact (show False from p).elim
    | some o =>
      cases o with
      | none => simp only [e1] at p; exact (show False from p).elim
      | some d =>
        obtain ⟨v, h1, h2⟩ := er.2 i d e1
        cases h2 with
        | @gl a y hm =>
          simp only [e1] at p
          cases e2 : tab y with
          | none => simp only [e2] at p; exact (show False from p).elim
          | some F =>
            simp only [e2] at p
            exact ⟨a, y, F, h1, hm, e2, r ρ σ L H S _ er st (p.step fun ds S1 L1 H1 e1 s1 p1 vs rs => ⟨ds, L1, S1, rs, s1, p1.wish⟩)⟩
        | _ => simp only [e1] at p; exact (show False from p).elim
end
/-! ### said(lambda: ..) -/
def eSaid (kd : Str → List D → Option Str) (fe : SE) : SE := fun ρ S => match fe ρ S with
  | .ok _ S1 => .ok (.str "told") S1
  | .exc x fs S1 => (match kd x fs with
    | some z => .ok (.str z) S1
    | none => .no)
  | _ => .no
theorem Sto.tabs {w : Wd} {L : Ly} {H H1 : Hp} {S : Store} (s : Sto w L H S) (eN : LamX.ExtN H H1) (t : LamX.Tabs w.T H1) : Ex L H L H1 ∧ Sto w L H1 S := by
  have ex : Ex L H L H1 := ⟨⟨[], by simp⟩, rfl, fun b o h hn n => ⟨eN b o h hn, n⟩, fun b hb => by
    obtain ⟨us, h⟩ := s.pr b hb
    rw [h, eN b _ h noT_lst], .of fun b _ u h k => eN b u h k⟩
  refine ⟨ex, s.len, s.nd, fun n o a h1 h2 => ?_, fun a ha => ?_, s.ap, t⟩
  · have ob := s.ob n o a h1 h2
    exact ob.monoY ex.y fun u h k => eN _ u h fun ps z => by rw [z] at k; exact k rfl
  · obtain ⟨us, h⟩ := s.pr a ha
    exact ⟨us, eN _ _ h noT_lst⟩
section
variable {X : Cx} {W : XW}
theorem de_said {x a : Str} {st : Stmt} {g c P : Addr} {fd : FuncData} {k : Nat} {Ng : List Str} {kd : Str → List D → Option Str} {params : Arguments} {body : Expr} {scope : Scope} {fe : SE} {p lpos pos : Pos} (hW : W.er = none) (Fn : Fun X.K x x st g fd) (hm : X.mg x = some (.ref g)) (hb : L2.Binds X.K fd [a] []) (Sg : FnScope Ng [a] (defScope st))
    (hG : ∀ cdv, LamX.GivesTo X Ng x (defScope st) g cdv (defBody st) a (X.env.qual ++ "<lambda>") (TSaid X.mg ⟨X.K, X.mg, W.T, none⟩ kd)) (TB : LamX.TabB X.base X.mg c P) (hcode : X.env.code = .ref c) {qn : Str} (hqn : X.env.qual = qn) (hmT : (P, qn ++ "<lambda>") ∈ W.T) (hu : ∀ q ∈ W.T, q.1 = P → q.2 = qn ++ "<lambda>") (hr : Room (k + 2) X.A)
    (hbody : ∀ (A : Around) (outer : List Env) (s : Shared) (H : Hp) (E : XK) (f c' : Addr), RmQ false k (A.deeper (LamX.lamEnv X scope s.heap.objs.size f c')) → Takes (LamX.lamCx X A outer s H E scope f c') (fun cls d _ H => (XW.mk W.T (some E) none).wish cls d H) → DE (LamX.lamCx X A outer s H E scope f c') ⟨W.T, some E, none⟩ body fe)
    (hL : LamX.lamSB X.env.scope scope = true := by kernel_rfl) (hdef : defaultsOf params X.env = ([], []) := by rfl)
    (hbind : ∀ (q : Str) (cl : List (Str × Addr)) (pm cv ctv : Value), bindArgs (PySem.W.kla_fn "<lambda>" q params body scope cl pm cv ctv) ⟨[], []⟩ = pure [] := by intros; rfl)
    (hg : Gl X x := by rfl) (hNg : Ng[0]? = some a := by rfl) (hva : Vis (defScope st) a := by exact Or.inl rfl) (hdb : (x == ("__debug__" : Str)) = false := by decide) (hd : (a == ("__debug__" : Str)) = false := by decide) (hcd : (a == ("__classdict__" : Str)) = false := by decide) :
    DE X W (.Call (.Name x p) [.Lambda params body scope lpos] [] pos) (eSaid kd fe) := by
  subst hqn
  obtain ⟨oc, od, kV, doc, pm, an, cdv, ct, osl, rfl, lk, hcg⟩ := Fn.ex
  refine ⟨_, LamX.pe_lamcall (T := W.T) (k := k) (t := fun E => canE ⟨X.K, X.mg, W.T, none⟩ ⟨W.T, some E, none⟩ fe) hg hm Fn.kp lk hcg hb Sg hNg hva (hG cdv) TB hcode hmT hu hr (LamX.lamS_by hL) hdef hbind (fun A outer s H E f c' hr' => (hbody A outer s H E f c' ⟨hr', fun z => Bool.noConfusion z⟩ (takes_of rfl rfl rfl rfl)).can) hdb hd hcd, ?_⟩
  intro ρ σ L H S Q er sto post
  have hwd : wd X W = ⟨X.K, X.mg, W.T, none⟩ := by show (⟨X.K, X.mg, W.T, W.er⟩ : Wd) = _; rw [hW]
  rw [hwd] at er sto post
  refine ⟨sto.tab, fun H1 eN T1 => ?_⟩
  obtain ⟨ex, sto1⟩ := sto.tabs eN T1
  refine ⟨ρ, L, S, er.mono ex, sto1, ?_⟩
  unfold eSaid at post
  cases ef : fe ρ S with
  | no => rw [ef] at post; exact (show False from post).elim
  | ok d S1 =>
    rw [ef] at post
    intro L' H' ex' st' v rv
    exact (show Post _ W L H (QV ⟨X.K, X.mg, W.T, none⟩ Q) (.ok (.str "told") S1) from post) L' H' (ex.trans ex') st' _ (.str _)
  | exc y fs S1 =>
    rw [ef] at post
    cases ek : kd y fs with
    | none => simp only [ek] at post; exact (show False from post).elim
    | some z =>
      simp only [ek] at post
      intro L' H' C od' ex' st' hC hX
      exact ⟨C, y, z, fs, L', S1, rfl, hC, ek, st', hX, fun L2 H2 ex2 st2 => (show Post _ W L H (QV ⟨X.K, X.mg, W.T, none⟩ Q) (.ok (.str z) S1) from post) L2 H2 ((ex.trans ex').trans ex2) st2 _ (.str _)⟩
end
/-- the words for the kinds -/
def kdT : Str → List D → Option Str := fun x fs => match fs with
  | [] => if x = "NoBoard" then some "! board" else if x = "NoLine" then some "! line" else if x = "NoSwitching" then some "! switching" else if x = "NoNumber" then some "! number" else if x = "Unlike" then some "! unlike" else if x = "NoNet" then some "! net"
    else if x = "NoPlace" then some "! place" else if x = "NoText" then some "! text" else if x = "NoRow" then some "! row" else none
  | _ => none
theorem kdT_memF {x z : Str} {fs : List D} (h : kdT x fs = some z) : fs = [] ∧ x ∈ errNames := by
  cases fs with
  | cons _ _ => exact nomatch h
  | nil =>
    refine ⟨rfl, ?_⟩
    unfold kdT at h
    simp only at h
    repeat (split at h; (rename_i e; subst e; decide))
    cases h
theorem kdT_mem {x z : Str} {fs : List D} (h : kdT x fs = some z) : x ∈ errNames := (kdT_memF h).2
/-- texts joined, none of them long -/
def sml (x : Str) : Bool := small x.length
/-- the words for the kinds, with the two numbers of the one that has them -/
def wMany (m n : Int) : Str := ((("! many " : Str) ++ (PyData.int m).shown) ++ " ") ++ (PyData.int n).shown
def kdM : Str → List D → Option Str := fun x fs => match fs with
  | [] => kdT x []
  | [.int m, .int n] => if x = "TooMany" ∧ (0 ≤ m ∧ m < 100) ∧ 0 ≤ n ∧ n < 100 then some (wMany m n) else none
  | _ => none
theorem kdM_mem {x z : Str} {fs : List D} (h : kdM x fs = some z) : x ∈ errNames := by
  unfold kdM at h
  split at h
  · exact kdT_mem h
  · split at h
    · rename_i e
      rw [e.1]
      decide
    · cases h
  · cases h
end Ls
/-! LsM: a def whose code object is known; what is known of the classes of refusals. -/
namespace Ls
open PySem PySem.Spec PyProof.Rows L2
theorem _root_.L2H.RoomH.units {k : Nat} {A : Around} (r : L2H.RoomH k A) : A.units + 64 < cLine := by have := r.un; omega
theorem _root_.L2H.RoomH.units0 {k : Nat} {A : Around} (r : L2H.RoomH k A) : A.units < cLine := by have := r.un; omega
theorem _root_.L2H.RoomH.units65 {k : Nat} {A : Around} (r : L2H.RoomH k A) : A.units + 65 < cLine := by have := r.un; omega
theorem FnQ.lift {b : Bool} {P : Program} {w : World} {K : PySem.W.Frag} {mg : Str → Option Value} {base : Heap} {CX : CXT} {j k : Nat} {f : Addr} {fd : FuncData} {ps : List Str} {sp : Sp} (F : FnQ b P w K mg base CX j f fd ps sp) (h : j ≤ k) : FnQ b P w K mg base CX k f fd ps sp :=
  ⟨F.len, fun A outer s H args us vs Q E hr => F.go A outer s H args us vs Q E (hr.mono h)⟩
theorem fnD_okC {b : Bool} {P : Program} {w : World} {K : PySem.W.Frag} {mg : Str → Option Value} {base : Heap} {T : Tb} {x qual : Str} {st : Stmt} {f c : Addr} {fd : FuncData} {N ps : List Str} {k : Nat} {lv : Store → D → Store → Res D} {body : SS} (hlv : LvOk lv) (Fn : Fun K x qual st f fd) (Sc : FnScope N ps (defScope st)) (hc : fd.code = .ref c)
    (hbody : ∀ (A : Around) (outer : List Env) (s : Shared) (H : Hp) (E : XK), RmQ b k (A.deeper (envOfC qual (defScope st) s.heap.objs.size f (.ref c))) →
      DSs (cxOf (L2.CX P w) P w K mg base N qual (defScope st) f (.ref c) A outer s H E) ⟨T, some E, none⟩ (defBody st) body) :
    FnQ b P w K mg base (L2.CX P w) (k + 1) f fd ps (spF ⟨K, mg, T, none⟩ ps.length (fnD ps.length N.length lv body)) := by
  refine ⟨fun vs H Q E h => h.1, fun A outer s H args us vs Q E hrg e0 hbd rvs h => ?_⟩
  obtain ⟨oc, od, kV, doc, pm, an, cdv, ct, osl, rfl, lk, hcd⟩ := Fn.ex
  have ec : cdv = .ref c := hc
  subst ec
  obtain ⟨hl, ds, L, S, r, sto, p⟩ := h
  refine LamX.run_ofS lk hcd Sc hrg.rm e0 hbd rvs hl fun hr => ?_
  obtain ⟨t, pt, rt⟩ := hbody A outer s H E ⟨hr, hrg.gd⟩
  refine ⟨t, pt, rt (startD N.length ds) _ L H S _ (start_env r) sto ?_⟩
  exact fnD_post hlv hl r sto p
/-! ### the classes of refusals -/
structure ErrsOk (K : PySem.W.Frag) (mg : Str → Option Value) (CS : Addr) : Prop where
  s : mg "SwitchError" = some (.ref CS)
  ix : ∀ x, x ∈ errNames → IsxOk K mg x
  ec : ∀ x C, x ∈ errNames → mg x = some (.ref C) → ExcC K C
  up : ∀ x C, x ∈ errNames → mg x = some (.ref C) → PySem.W.exmOne K (.ref C) (.ref CS) = some true
/-- one of them -/
structure ErrF (K : PySem.W.Frag) (mg : Str → Option Value) (CS : Addr) (x : Str) (C : Addr) : Prop where
  g : mg x = some (.ref C)
  i : PySem.W.isClsIn K C = true
  t : PySem.W.typeIn K (.ref C) = some (.type "type")
  e : ExcC K C
  v : PySem.W.subIn K (.ref C) (.type "ValueError") = some true
  u : PySem.W.subIn K (.ref C) (.ref CS) = some true
theorem kitCls_of {K : PySem.W.Frag} {t : Value} {C : Addr} {b : Bool} (i : PySem.W.isClsIn K C = true) (ht : PySem.W.typeIn K (.ref C) = some (.type "type")) (s : PySem.W.subIn K t (.ref C) = some b) : PySem.W.kitCls K t (.ref C) = some b := by
  have i2 : (PySem.W.clsIn K C).isSome = true := i
  show (if ((PySem.W.clsIn K C).isSome && PySem.W.typeIn K (.ref C) == some (.type "type")) = true then PySem.W.subIn K t (.ref C) else none) = some b
  rw [if_pos (by rw [i2, ht]; decide)]
  exact s
theorem kitOne_of {K : PySem.W.Frag} {A C : Addr} {b : Bool} (i : PySem.W.isClsIn K C = true) (ht : PySem.W.typeIn K (.ref C) = some (.type "type")) (s : PySem.W.subIn K (.ref A) (.ref C) = some b) (hs : PySem.W.subIn K (.ref A) (.ref A) = some true) : PySem.W.kitOne K (.ref A) (.ref C) = some b := by
  unfold PySem.W.kitOne
  by_cases e : A = C
  · subst e
    rw [hs] at s
    cases s
    rw [if_pos (by simp)]
  · rw [if_neg (by simp [e])]
    exact kitCls_of i ht s
theorem kitVE {K : PySem.W.Frag} {A : Addr} (s : PySem.W.subIn K (.ref A) (.type "ValueError") = some true) : PySem.W.kitOne K (.ref A) (.type "ValueError") = some true := by
  unfold PySem.W.kitOne
  rw [if_neg (by simp)]
  show (if PySem.W.kitMeta "ValueError" = true then PySem.W.subIn K (.ref A) (.type "ValueError") else none) = some true
  rw [if_pos (by decide +kernel)]
  exact s
theorem errs_mk {K : PySem.W.Frag} {mg : Str → Option Value} {CS c0 c1 c2 c3 c4 c5 c6 c7 c8 c9 : Addr} (hs : mg "SwitchError" = some (.ref CS)) (si : PySem.W.isClsIn K CS = true) (st : PySem.W.typeIn K (.ref CS) = some (.type "type")) (sb : PySem.W.subIn K (.ref CS) (.type "BaseException") = some true)
    (e0 : ErrF K mg CS "NoBoard" c0)
    (e1 : ErrF K mg CS "NoLine" c1)
    (e2 : ErrF K mg CS "NoSwitching" c2)
    (e3 : ErrF K mg CS "NoNumber" c3)
    (e4 : ErrF K mg CS "Unlike" c4)
    (e5 : ErrF K mg CS "NoNet" c5)
    (e6 : ErrF K mg CS "NoPlace" c6)
    (e7 : ErrF K mg CS "NoText" c7)
    (e8 : ErrF K mg CS "NoRow" c8)
    (e9 : ErrF K mg CS "TooMany" c9)
    (s00 : PySem.W.subIn K (.ref c0) (.ref c0) = some true)
    (s01 : PySem.W.subIn K (.ref c0) (.ref c1) = some false)
    (s02 : PySem.W.subIn K (.ref c0) (.ref c2) = some false)
    (s03 : PySem.W.subIn K (.ref c0) (.ref c3) = some false)
    (s04 : PySem.W.subIn K (.ref c0) (.ref c4) = some false)
    (s05 : PySem.W.subIn K (.ref c0) (.ref c5) = some false)
    (s06 : PySem.W.subIn K (.ref c0) (.ref c6) = some false)
    (s07 : PySem.W.subIn K (.ref c0) (.ref c7) = some false)
    (s08 : PySem.W.subIn K (.ref c0) (.ref c8) = some false)
    (s09 : PySem.W.subIn K (.ref c0) (.ref c9) = some false)
    (s10 : PySem.W.subIn K (.ref c1) (.ref c0) = some false)
    (s11 : PySem.W.subIn K (.ref c1) (.ref c1) = some true)
    (s12 : PySem.W.subIn K (.ref c1) (.ref c2) = some false)
    (s13 : PySem.W.subIn K (.ref c1) (.ref c3) = some false)
    (s14 : PySem.W.subIn K (.ref c1) (.ref c4) = some false)
    (s15 : PySem.W.subIn K (.ref c1) (.ref c5) = some false)
    (s16 : PySem.W.subIn K (.ref c1) (.ref c6) = some false)
    (s17 : PySem.W.subIn K (.ref c1) (.ref c7) = some false)
    (s18 : PySem.W.subIn K (.ref c1) (.ref c8) = some false)
    (s19 : PySem.W.subIn K (.ref c1) (.ref c9) = some false)
    (s20 : PySem.W.subIn K (.ref c2) (.ref c0) = some false)
    (s21 : PySem.W.subIn K (.ref c2) (.ref c1) = some false)
    (s22 : PySem.W.subIn K (.ref c2) (.ref c2) = some true)
    (s23 : PySem.W.subIn K (.ref c2) (.ref c3) = some false)
    (s24 : PySem.W.subIn K (.ref c2) (.ref c4) = some false)
    (s25 : PySem.W.subIn K (.ref c2) (.ref c5) = some false)
    (s26 : PySem.W.subIn K (.ref c2) (.ref c6) = some false)
    (s27 : PySem.W.subIn K (.ref c2) (.ref c7) = some false)
    (s28 : PySem.W.subIn K (.ref c2) (.ref c8) = some false)
    (s29 : PySem.W.subIn K (.ref c2) (.ref c9) = some false)
    (s30 : PySem.W.subIn K (.ref c3) (.ref c0) = some false)
    (s31 : PySem.W.subIn K (.ref c3) (.ref c1) = some false)
    (s32 : PySem.W.subIn K (.ref c3) (.ref c2) = some false)
    (s33 : PySem.W.subIn K (.ref c3) (.ref c3) = some true)
    (s34 : PySem.W.subIn K (.ref c3) (.ref c4) = some false)
    (s35 : PySem.W.subIn K (.ref c3) (.ref c5) = some false)
    (s36 : PySem.W.subIn K (.ref c3) (.ref c6) = some false)
    (s37 : PySem.W.subIn K (.ref c3) (.ref c7) = some false)
    (s38 : PySem.W.subIn K (.ref c3) (.ref c8) = some false)
    (s39 : PySem.W.subIn K (.ref c3) (.ref c9) = some false)
    (s40 : PySem.W.subIn K (.ref c4) (.ref c0) = some false)
    (s41 : PySem.W.subIn K (.ref c4) (.ref c1) = some false)
    (s42 : PySem.W.subIn K (.ref c4) (.ref c2) = some false)
    (s43 : PySem.W.subIn K (.ref c4) (.ref c3) = some false)
    (s44 : PySem.W.subIn K (.ref c4) (.ref c4) = some true)
    (s45 : PySem.W.subIn K (.ref c4) (.ref c5) = some false)
    (s46 : PySem.W.subIn K (.ref c4) (.ref c6) = some false)
    (s47 : PySem.W.subIn K (.ref c4) (.ref c7) = some false)
    (s48 : PySem.W.subIn K (.ref c4) (.ref c8) = some false)
    (s49 : PySem.W.subIn K (.ref c4) (.ref c9) = some false)
    (s50 : PySem.W.subIn K (.ref c5) (.ref c0) = some false)
    (s51 : PySem.W.subIn K (.ref c5) (.ref c1) = some false)
    (s52 : PySem.W.subIn K (.ref c5) (.ref c2) = some false)
    (s53 : PySem.W.subIn K (.ref c5) (.ref c3) = some false)
    (s54 : PySem.W.subIn K (.ref c5) (.ref c4) = some false)
    (s55 : PySem.W.subIn K (.ref c5) (.ref c5) = some true)
    (s56 : PySem.W.subIn K (.ref c5) (.ref c6) = some false)
    (s57 : PySem.W.subIn K (.ref c5) (.ref c7) = some false)
    (s58 : PySem.W.subIn K (.ref c5) (.ref c8) = some false)
    (s59 : PySem.W.subIn K (.ref c5) (.ref c9) = some false)
    (s60 : PySem.W.subIn K (.ref c6) (.ref c0) = some false)
    (s61 : PySem.W.subIn K (.ref c6) (.ref c1) = some false)
    (s62 : PySem.W.subIn K (.ref c6) (.ref c2) = some false)
    (s63 : PySem.W.subIn K (.ref c6) (.ref c3) = some false)
    (s64 : PySem.W.subIn K (.ref c6) (.ref c4) = some false)
    (s65 : PySem.W.subIn K (.ref c6) (.ref c5) = some false)
    (s66 : PySem.W.subIn K (.ref c6) (.ref c6) = some true)
    (s67 : PySem.W.subIn K (.ref c6) (.ref c7) = some false)
    (s68 : PySem.W.subIn K (.ref c6) (.ref c8) = some false)
    (s69 : PySem.W.subIn K (.ref c6) (.ref c9) = some false)
    (s70 : PySem.W.subIn K (.ref c7) (.ref c0) = some false)
    (s71 : PySem.W.subIn K (.ref c7) (.ref c1) = some false)
    (s72 : PySem.W.subIn K (.ref c7) (.ref c2) = some false)
    (s73 : PySem.W.subIn K (.ref c7) (.ref c3) = some false)
    (s74 : PySem.W.subIn K (.ref c7) (.ref c4) = some false)
    (s75 : PySem.W.subIn K (.ref c7) (.ref c5) = some false)
    (s76 : PySem.W.subIn K (.ref c7) (.ref c6) = some false)
    (s77 : PySem.W.subIn K (.ref c7) (.ref c7) = some true)
    (s78 : PySem.W.subIn K (.ref c7) (.ref c8) = some false)
    (s79 : PySem.W.subIn K (.ref c7) (.ref c9) = some false)
    (s80 : PySem.W.subIn K (.ref c8) (.ref c0) = some false)
    (s81 : PySem.W.subIn K (.ref c8) (.ref c1) = some false)
    (s82 : PySem.W.subIn K (.ref c8) (.ref c2) = some false)
    (s83 : PySem.W.subIn K (.ref c8) (.ref c3) = some false)
    (s84 : PySem.W.subIn K (.ref c8) (.ref c4) = some false)
    (s85 : PySem.W.subIn K (.ref c8) (.ref c5) = some false)
    (s86 : PySem.W.subIn K (.ref c8) (.ref c6) = some false)
    (s87 : PySem.W.subIn K (.ref c8) (.ref c7) = some false)
    (s88 : PySem.W.subIn K (.ref c8) (.ref c8) = some true)
    (s89 : PySem.W.subIn K (.ref c8) (.ref c9) = some false)
    (s90 : PySem.W.subIn K (.ref c9) (.ref c0) = some false)
    (s91 : PySem.W.subIn K (.ref c9) (.ref c1) = some false)
    (s92 : PySem.W.subIn K (.ref c9) (.ref c2) = some false)
    (s93 : PySem.W.subIn K (.ref c9) (.ref c3) = some false)
    (s94 : PySem.W.subIn K (.ref c9) (.ref c4) = some false)
    (s95 : PySem.W.subIn K (.ref c9) (.ref c5) = some false)
    (s96 : PySem.W.subIn K (.ref c9) (.ref c6) = some false)
    (s97 : PySem.W.subIn K (.ref c9) (.ref c7) = some false)
    (s98 : PySem.W.subIn K (.ref c9) (.ref c8) = some false)
    (s99 : PySem.W.subIn K (.ref c9) (.ref c9) = some true) : ErrsOk K mg CS := by
  have at_ : ∀ {x : Str} {C D : Addr}, mg x = some (.ref C) → mg x = some (.ref D) → C = D := fun h1 h2 => by
    rw [h1] at h2
    cases h2
    rfl
  have up : ∀ {x : Str} {C : Addr}, ErrF K mg CS x C → PySem.W.exmOne K (.ref C) (.ref CS) = some true := fun e => by
    unfold PySem.W.exmOne
    rw [if_pos (by rw [sb]; decide)]
    exact kitCls_of si st e.u
  have fin : ∀ {x : Str} {A : Addr} (hx : ErrF K mg CS x A) (hh : ∀ y, y ∈ errNames → ∀ B, mg y = some (.ref B) → PySem.W.kitOne K (.ref A) (.ref B) = some (decide (x = y))), IsxOk K mg x := fun {x A} hx hh C hC => by
    have e := at_ hC hx.g
    subst e
    exact ⟨fun y B hy hB => hh y hy B hB, kitVE hx.v⟩
  refine ⟨hs, fun x hx => ?_, fun x C hx hC => ?_, fun x C hx hC => ?_⟩
  · simp only [errNames, List.mem_cons, List.not_mem_nil, or_false] at hx
    rcases hx with rfl | rfl | rfl | rfl | rfl | rfl | rfl | rfl | rfl | rfl
    · refine fin e0 fun y hy B hB => ?_
      simp only [errNames, List.mem_cons, List.not_mem_nil, or_false] at hy
      rcases hy with rfl | rfl | rfl | rfl | rfl | rfl | rfl | rfl | rfl | rfl
      · rw [at_ hB e0.g]; exact kitOne_of e0.i e0.t s00 s00
      · rw [at_ hB e1.g]; exact kitOne_of e1.i e1.t s01 s00
      · rw [at_ hB e2.g]; exact kitOne_of e2.i e2.t s02 s00
      · rw [at_ hB e3.g]; exact kitOne_of e3.i e3.t s03 s00
      · rw [at_ hB e4.g]; exact kitOne_of e4.i e4.t s04 s00
      · rw [at_ hB e5.g]; exact kitOne_of e5.i e5.t s05 s00
      · rw [at_ hB e6.g]; exact kitOne_of e6.i e6.t s06 s00
      · rw [at_ hB e7.g]; exact kitOne_of e7.i e7.t s07 s00
      · rw [at_ hB e8.g]; exact kitOne_of e8.i e8.t s08 s00
      · rw [at_ hB e9.g]; exact kitOne_of e9.i e9.t s09 s00
    · refine fin e1 fun y hy B hB => ?_
      simp only [errNames, List.mem_cons, List.not_mem_nil, or_false] at hy
      rcases hy with rfl | rfl | rfl | rfl | rfl | rfl | rfl | rfl | rfl | rfl
      · rw [at_ hB e0.g]; exact kitOne_of e0.i e0.t s10 s11
      · rw [at_ hB e1.g]; exact kitOne_of e1.i e1.t s11 s11
      · rw [at_ hB e2.g]; exact kitOne_of e2.i e2.t s12 s11
      · rw [at_ hB e3.g]; exact kitOne_of e3.i e3.t s13 s11
      · rw [at_ hB e4.g]; exact kitOne_of e4.i e4.t s14 s11
      · rw [at_ hB e5.g]; exact kitOne_of e5.i e5.t s15 s11
      · rw [at_ hB e6.g]; exact kitOne_of e6.i e6.t s16 s11
      · rw [at_ hB e7.g]; exact kitOne_of e7.i e7.t s17 s11
      · rw [at_ hB e8.g]; exact kitOne_of e8.i e8.t s18 s11
      · rw [at_ hB e9.g]; exact kitOne_of e9.i e9.t s19 s11
    · refine fin e2 fun y hy B hB => ?_
      simp only [errNames, List.mem_cons, List.not_mem_nil, or_false] at hy
      rcases hy with rfl | rfl | rfl | rfl | rfl | rfl | rfl | rfl | rfl | rfl
      · rw [at_ hB e0.g]; exact kitOne_of e0.i e0.t s20 s22
      · rw [at_ hB e1.g]; exact kitOne_of e1.i e1.t s21 s22
      · rw [at_ hB e2.g]; exact kitOne_of e2.i e2.t s22 s22
      · rw [at_ hB e3.g]; exact kitOne_of e3.i e3.t s23 s22
      · rw [at_ hB e4.g]; exact kitOne_of e4.i e4.t s24 s22
      · rw [at_ hB e5.g]; exact kitOne_of e5.i e5.t s25 s22
      · rw [at_ hB e6.g]; exact kitOne_of e6.i e6.t s26 s22
      · rw [at_ hB e7.g]; exact kitOne_of e7.i e7.t s27 s22
      · rw [at_ hB e8.g]; exact kitOne_of e8.i e8.t s28 s22
      · rw [at_ hB e9.g]; exact kitOne_of e9.i e9.t s29 s22
    · refine fin e3 fun y hy B hB => ?_
      simp only [errNames, List.mem_cons, List.not_mem_nil, or_false] at hy
      rcases hy with rfl | rfl | rfl | rfl | rfl | rfl | rfl | rfl | rfl | rfl
      · rw [at_ hB e0.g]; exact kitOne_of e0.i e0.t s30 s33
      · rw [at_ hB e1.g]; exact kitOne_of e1.i e1.t s31 s33
      · rw [at_ hB e2.g]; exact kitOne_of e2.i e2.t s32 s33
      · rw [at_ hB e3.g]; exact kitOne_of e3.i e3.t s33 s33
      · rw [at_ hB e4.g]; exact kitOne_of e4.i e4.t s34 s33
      · rw [at_ hB e5.g]; exact kitOne_of e5.i e5.t s35 s33
      · rw [at_ hB e6.g]; exact kitOne_of e6.i e6.t s36 s33
      · rw [at_ hB e7.g]; exact kitOne_of e7.i e7.t s37 s33
      · rw [at_ hB e8.g]; exact kitOne_of e8.i e8.t s38 s33
      · rw [at_ hB e9.g]; exact kitOne_of e9.i e9.t s39 s33
    · refine fin e4 fun y hy B hB => ?_
      simp only [errNames, List.mem_cons, List.not_mem_nil, or_false] at hy
      rcases hy with rfl | rfl | rfl | rfl | rfl | rfl | rfl | rfl | rfl | rfl
      · rw [at_ hB e0.g]; exact kitOne_of e0.i e0.t s40 s44
      · rw [at_ hB e1.g]; exact kitOne_of e1.i e1.t s41 s44
      · rw [at_ hB e2.g]; exact kitOne_of e2.i e2.t s42 s44
      · rw [at_ hB e3.g]; exact kitOne_of e3.i e3.t s43 s44
      · rw [at_ hB e4.g]; exact kitOne_of e4.i e4.t s44 s44
      · rw [at_ hB e5.g]; exact kitOne_of e5.i e5.t s45 s44
      · rw [at_ hB e6.g]; exact kitOne_of e6.i e6.t s46 s44
      · rw [at_ hB e7.g]; exact kitOne_of e7.i e7.t s47 s44
      · rw [at_ hB e8.g]; exact kitOne_of e8.i e8.t s48 s44
      · rw [at_ hB e9.g]; exact kitOne_of e9.i e9.t s49 s44
    · refine fin e5 fun y hy B hB => ?_
      simp only [errNames, List.mem_cons, List.not_mem_nil, or_false] at hy
      rcases hy with rfl | rfl | rfl | rfl | rfl | rfl | rfl | rfl | rfl | rfl
      · rw [at_ hB e0.g]; exact kitOne_of e0.i e0.t s50 s55
      · rw [at_ hB e1.g]; exact kitOne_of e1.i e1.t s51 s55
      · rw [at_ hB e2.g]; exact kitOne_of e2.i e2.t s52 s55
      · rw [at_ hB e3.g]; exact kitOne_of e3.i e3.t s53 s55
      · rw [at_ hB e4.g]; exact kitOne_of e4.i e4.t s54 s55
      · rw [at_ hB e5.g]; exact kitOne_of e5.i e5.t s55 s55
      · rw [at_ hB e6.g]; exact kitOne_of e6.i e6.t s56 s55
      · rw [at_ hB e7.g]; exact kitOne_of e7.i e7.t s57 s55
      · rw [at_ hB e8.g]; exact kitOne_of e8.i e8.t s58 s55
      · rw [at_ hB e9.g]; exact kitOne_of e9.i e9.t s59 s55
    · refine fin e6 fun y hy B hB => ?_
      simp only [errNames, List.mem_cons, List.not_mem_nil, or_false] at hy
      rcases hy with rfl | rfl | rfl | rfl | rfl | rfl | rfl | rfl | rfl | rfl
      · rw [at_ hB e0.g]; exact kitOne_of e0.i e0.t s60 s66
      · rw [at_ hB e1.g]; exact kitOne_of e1.i e1.t s61 s66
      · rw [at_ hB e2.g]; exact kitOne_of e2.i e2.t s62 s66
      · rw [at_ hB e3.g]; exact kitOne_of e3.i e3.t s63 s66
      · rw [at_ hB e4.g]; exact kitOne_of e4.i e4.t s64 s66
      · rw [at_ hB e5.g]; exact kitOne_of e5.i e5.t s65 s66
      · rw [at_ hB e6.g]; exact kitOne_of e6.i e6.t s66 s66
      · rw [at_ hB e7.g]; exact kitOne_of e7.i e7.t s67 s66
      · rw [at_ hB e8.g]; exact kitOne_of e8.i e8.t s68 s66
      · rw [at_ hB e9.g]; exact kitOne_of e9.i e9.t s69 s66
    · refine fin e7 fun y hy B hB => ?_
      simp only [errNames, List.mem_cons, List.not_mem_nil, or_false] at hy
      rcases hy with rfl | rfl | rfl | rfl | rfl | rfl | rfl | rfl | rfl | rfl
      · rw [at_ hB e0.g]; exact kitOne_of e0.i e0.t s70 s77
      · rw [at_ hB e1.g]; exact kitOne_of e1.i e1.t s71 s77
      · rw [at_ hB e2.g]; exact kitOne_of e2.i e2.t s72 s77
      · rw [at_ hB e3.g]; exact kitOne_of e3.i e3.t s73 s77
      · rw [at_ hB e4.g]; exact kitOne_of e4.i e4.t s74 s77
      · rw [at_ hB e5.g]; exact kitOne_of e5.i e5.t s75 s77
      · rw [at_ hB e6.g]; exact kitOne_of e6.i e6.t s76 s77
      · rw [at_ hB e7.g]; exact kitOne_of e7.i e7.t s77 s77
      · rw [at_ hB e8.g]; exact kitOne_of e8.i e8.t s78 s77
      · rw [at_ hB e9.g]; exact kitOne_of e9.i e9.t s79 s77
    · refine fin e8 fun y hy B hB => ?_
      simp only [errNames, List.mem_cons, List.not_mem_nil, or_false] at hy
      rcases hy with rfl | rfl | rfl | rfl | rfl | rfl | rfl | rfl | rfl | rfl
      · rw [at_ hB e0.g]; exact kitOne_of e0.i e0.t s80 s88
      · rw [at_ hB e1.g]; exact kitOne_of e1.i e1.t s81 s88
      · rw [at_ hB e2.g]; exact kitOne_of e2.i e2.t s82 s88
      · rw [at_ hB e3.g]; exact kitOne_of e3.i e3.t s83 s88
      · rw [at_ hB e4.g]; exact kitOne_of e4.i e4.t s84 s88
      · rw [at_ hB e5.g]; exact kitOne_of e5.i e5.t s85 s88
      · rw [at_ hB e6.g]; exact kitOne_of e6.i e6.t s86 s88
      · rw [at_ hB e7.g]; exact kitOne_of e7.i e7.t s87 s88
      · rw [at_ hB e8.g]; exact kitOne_of e8.i e8.t s88 s88
      · rw [at_ hB e9.g]; exact kitOne_of e9.i e9.t s89 s88
    · refine fin e9 fun y hy B hB => ?_
      simp only [errNames, List.mem_cons, List.not_mem_nil, or_false] at hy
      rcases hy with rfl | rfl | rfl | rfl | rfl | rfl | rfl | rfl | rfl | rfl
      · rw [at_ hB e0.g]; exact kitOne_of e0.i e0.t s90 s99
      · rw [at_ hB e1.g]; exact kitOne_of e1.i e1.t s91 s99
      · rw [at_ hB e2.g]; exact kitOne_of e2.i e2.t s92 s99
      · rw [at_ hB e3.g]; exact kitOne_of e3.i e3.t s93 s99
      · rw [at_ hB e4.g]; exact kitOne_of e4.i e4.t s94 s99
      · rw [at_ hB e5.g]; exact kitOne_of e5.i e5.t s95 s99
      · rw [at_ hB e6.g]; exact kitOne_of e6.i e6.t s96 s99
      · rw [at_ hB e7.g]; exact kitOne_of e7.i e7.t s97 s99
      · rw [at_ hB e8.g]; exact kitOne_of e8.i e8.t s98 s99
      · rw [at_ hB e9.g]; exact kitOne_of e9.i e9.t s99 s99
  · simp only [errNames, List.mem_cons, List.not_mem_nil, or_false] at hx
    rcases hx with rfl | rfl | rfl | rfl | rfl | rfl | rfl | rfl | rfl | rfl
    · rw [at_ hC e0.g]; exact e0.e
    · rw [at_ hC e1.g]; exact e1.e
    · rw [at_ hC e2.g]; exact e2.e
    · rw [at_ hC e3.g]; exact e3.e
    · rw [at_ hC e4.g]; exact e4.e
    · rw [at_ hC e5.g]; exact e5.e
    · rw [at_ hC e6.g]; exact e6.e
    · rw [at_ hC e7.g]; exact e7.e
    · rw [at_ hC e8.g]; exact e8.e
    · rw [at_ hC e9.g]; exact e9.e
  · simp only [errNames, List.mem_cons, List.not_mem_nil, or_false] at hx
    rcases hx with rfl | rfl | rfl | rfl | rfl | rfl | rfl | rfl | rfl | rfl
    · rw [at_ hC e0.g]; exact up e0
    · rw [at_ hC e1.g]; exact up e1
    · rw [at_ hC e2.g]; exact up e2
    · rw [at_ hC e3.g]; exact up e3
    · rw [at_ hC e4.g]; exact up e4
    · rw [at_ hC e5.g]; exact up e5
    · rw [at_ hC e6.g]; exact up e6
    · rw [at_ hC e7.g]; exact up e7
    · rw [at_ hC e8.g]; exact up e8
    · rw [at_ hC e9.g]; exact up e9
end Ls
/-! LsN: tuple(range(n)), list(range(n)). -/
namespace Ls
open PySem PySem.Spec PyProof.Rows L2
section
variable {X : Cx} {W : XW} {w : Wd}
theorem rangeD_map (lo : Int) (n : Nat) : rangeD lo n = (List.range n).map fun (i : Nat) => D.int (lo + (i : Int)) := by
  apply List.ext_getElem?
  intro i
  by_cases h : i < n
  · rw [rangeD_get lo n i h]
    simp [h]
  · rw [List.getElem?_eq_none (by rw [rangeD_len]; omega), List.getElem?_eq_none (by simp; omega)]
theorem repL_mapI {α : Type} {L : Ly} {H : Hp} (f : α → Int) (l : List α) : RepL w L H (l.map fun x => V.int (f x)) (l.map fun x => D.int (f x)) := by
  induction l with
  | nil => exact .nil
  | cons x r ih => exact .cons (.int _) ih
theorem repL_rg {L : Ly} {H : Hp} (j : Int) : RepL w L H (rgV 0 j) (rangeD 0 j.toNat) := by
  rw [rangeD_map]
  unfold rgV
  rw [Int.sub_zero]
  exact repL_mapI (fun (i : Nat) => (0 : Int) + (i : Int)) _
def dTupR : D → Store → Res D
  | .int j, S => if tameB j = true then .ok (.tup (rangeD 0 j.toNat)) S else .no
  | _, _ => .no
def dLstR : D → Store → Res D
  | .int j, S => if tameB j = true then .ok (.lst (rangeD 0 j.toNat)) S else .no
  | _, _ => .no
def eTupR (f : SE) : SE := fun ρ S => (f ρ S).bind dTupR
def eLstR (f : SE) : SE := fun ρ S => (f ρ S).bind dLstR
theorem rgOk_of {j : Int} (h : tameB j = true) : RgOk 0 j := by
  unfold tameB at h
  simp only [Nat.ble_eq] at h
  unfold RgOk
  omega
theorem de_tupR {a : Expr} {fa : SE} {p q pos pos' : Pos} (hm : X.mg "tuple" = none) (hm' : X.mg "range" = none) (ha : DE X W a fa) (hc : X.calm = true := by rfl) (hg : Gl X "tuple" := by rfl) (hg' : Gl X "range" := by rfl)
    (na : starEach [a] X.env = (false, eval a X.env) :: starEach [] X.env := by rfl) (ne : starEach [.Call (.Name "range" q) [a] [] pos'] X.env = (false, eval (.Call (.Name "range" q) [a] [] pos') X.env) :: starEach [] X.env := by rfl) :
    DE X W (.Call (.Name "tuple" p) [.Call (.Name "range" q) [a] [] pos'] [] pos) (eTupR fa) := by
  obtain ⟨t, pt, r⟩ := ha
  refine ⟨_, pe_tupRg hc hg hm (prg_1 hg' hm' pt na) ne, fun ρ σ L H S Q er st p => r ρ σ L H S _ er st (p.step fun d S1 L1 H1 e1 s1 p1 v rv => ?_)⟩
  cases rv <;> first | exact (show False from p1).elim | skip
  rename_i j
  replace p1 : Post (wd X W) W L1 H1 (QV (wd X W) Q) (if tameB j = true then .ok (.tup (rangeD 0 j.toNat)) S1 else .no) := p1
  by_cases h : tameB j = true
  · rw [if_pos h] at p1
    exact ⟨j, rfl, rgOk_of h, fun q hq => p1.there (s1.ex hq) (s1.new hq) _ (.tup (.inl upd_same) (s1.no hq) (repL_rg j))⟩
  · rw [if_neg h] at p1
    exact p1.elim
theorem de_lstR {a : Expr} {fa : SE} {p q pos pos' : Pos} (hm : X.mg "list" = none) (hm' : X.mg "range" = none) (ha : DE X W a fa) (hc : X.calm = true := by rfl) (hg : Gl X "list" := by rfl) (hg' : Gl X "range" := by rfl)
    (na : starEach [a] X.env = (false, eval a X.env) :: starEach [] X.env := by rfl) (ne : starEach [.Call (.Name "range" q) [a] [] pos'] X.env = (false, eval (.Call (.Name "range" q) [a] [] pos') X.env) :: starEach [] X.env := by rfl) :
    DE X W (.Call (.Name "list" p) [.Call (.Name "range" q) [a] [] pos'] [] pos) (eLstR fa) := by
  obtain ⟨t, pt, r⟩ := ha
  refine ⟨_, pe_listRg hc hg hm (prg_1 hg' hm' pt na) ne, fun ρ σ L H S Q er st p => r ρ σ L H S _ er st (p.step fun d S1 L1 H1 e1 s1 p1 v rv => ?_)⟩
  cases rv <;> first | exact (show False from p1).elim | skip
  rename_i j
  replace p1 : Post (wd X W) W L1 H1 (QV (wd X W) Q) (if tameB j = true then .ok (.lst (rangeD 0 j.toNat)) S1 else .no) := p1
  by_cases h : tameB j = true
  · rw [if_pos h] at p1
    exact ⟨j, rfl, rgOk_of h, fun q hq => p1.there (s1.ex hq) (s1.new hq) _ (.lst upd_same (s1.no hq) (repL_rg j))⟩
  · rw [if_neg h] at p1
    exact p1.elim
end
end Ls
/-! LsO: min(xs) of things that can be compared. -/
namespace Ls
open PySem PySem.Spec PyProof.Rows L2
section
variable {X : Cx} {W : XW} {w : Wd} {e : Expr} {es : List Expr} {fa : SA} {p pos : Pos}
def bestAt (ys : List PyData) : Nat := argBest (fun i j => PySem.W.dataLt (ys.getD i .none) (ys.getD j .none)) (ys.length - 1)
def rMinD (K : PySem.W.Frag) : List V → Hp → VK → Prop := fun vs H Q => ∃ a xs ys, vs = [V.ref a] ∧ SqL K H a xs ∧ DpAll K H xs ys ∧ PySem.W.AlikeAll ys ∧ 0 < ys.length ∧ PyData.depthAll ys ≤ 50 ∧ ∀ v, xs[bestAt ys]? = some v → Q v H
theorem vals_back : ∀ {xs : List V} {us : List Value} {i : Nat} {u : Value}, Vals xs us → us[i]? = some u → ∃ x, xs[i]? = some x ∧ RelV x u := fun {xs us i u} r e => by
  cases h : xs[i]? with
  | none => rw [r.none_of h] at e; cases e
  | some x =>
    obtain ⟨u', e', rx⟩ := r.get h
    rw [e'] at e
    cases e
    exact ⟨x, rfl, rx⟩
theorem call_minD (hc : X.calm = true) (hu : X.A.units + 65 < cLine) : CallR X (.builtin "min") (rMinD X.K) := by
  intro pins s σ H vs us Q I r h
  obtain ⟨a, xs, ys, rfl, hs, hd, ha, hn, hdp, q⟩ := h
  obtain ⟨its, rv, hl, _⟩ := I.list hs
  rw [Vals.ref1 r]
  obtain ⟨as, rd⟩ := Dp.readsAll I ys xs its hd rv
  have hlen : its.toArray.size = ys.length := PySem.W.readsAll_len (vs := its.toArray) (by simpa using rd)
  refine call_min_walkH (PySem.W.iter_listW (A := X.A.in1) (I.ok.hd hc) hl.isList fun s₂ e W st hfp hw hk => ?_)
  refine ⟨_, _, _, _, _, _, _, s.heap, _, rfl, W, st, hfp, by omega, hw, hk, PySem.W.cmpIn_lt (A := X.A.in1) (vs := its.toArray) (xs := ys) (as := as) (by simpa using rd) ha (by show X.A.units + 1 + _ < _; omega), fun v s' hP m => ?_⟩
  obtain ⟨h', tk, rfl, hk'⟩ := PySem.W.moved_old e rfl m
  rw [hlen] at hP
  obtain ⟨x, hx, rx⟩ := vals_back rv (show its[bestAt ys]? = some v by simpa [bestAt] using hP)
  exact ⟨x, H, I.kept hk', rx, q x hx⟩
def minOk (ys : List PyData) : Bool := !ys.isEmpty && ys.all (fun x => (match x with | .none => false | _ => true) && ys.all fun y => PySem.W.alike x y) && Nat.ble (PyData.depthAll ys) 50
theorem minOk_of {ys : List PyData} (h : minOk ys = true) : PySem.W.AlikeAll ys ∧ 0 < ys.length ∧ PyData.depthAll ys ≤ 50 := by
  unfold minOk at h
  simp only [Bool.and_eq_true, List.all_eq_true, Nat.ble_eq, Bool.not_eq_true'] at h
  obtain ⟨⟨h1, h2⟩, h3⟩ := h
  refine ⟨⟨fun x hx y hy => (h2 x hx).2 y hy, fun x hx e => ?_⟩, ?_, h3⟩
  · have := (h2 x hx).1
    rw [e] at this
    cases this
  · cases ys with
    | nil => simp at h1
    | cons => simp
def listOf (S : Store) : D → Option (List D)
  | .lst xs => some xs
  | .ref n => cell S n
  | _ => none
def dMin1 : List D → Store → Res D
  | [d], S => match listOf S d with
    | some xs => (match pdL xs with
      | some ys => if minOk ys = true then opt xs[bestAt ys]? S else .no
      | none => .no)
    | none => .no
  | _, _ => .no
theorem cd_minD : CallD w (rMinD w.K) dMin1 := by
  intro W L H S vs ds Q st r p
  match ds, p with
  | [d], p =>
    obtain ⟨v, rfl, rv⟩ := rep1 r
    have key : ∀ {a : Addr} {us : List V} {xs : List D}, v = .ref a → SqL w.K H a us → RepL w L H us xs → listOf S d = some xs → rMinD w.K [v] H Q := fun {a us xs} ev hq rx el => by
      replace p : Post w W L H (QV w Q) (match listOf S d with
        | some xs => (match pdL xs with
          | some ys => if minOk ys = true then opt xs[bestAt ys]? S else .no
          | none => .no)
        | none => .no) := p
      rw [el] at p
      simp only at p
      cases e1 : pdL xs with
      | none => simp only [e1] at p; exact (show False from p).elim
      | some ys =>
        simp only [e1] at p
        by_cases hk : minOk ys = true
        · rw [if_pos hk] at p
          obtain ⟨h1, h2, h3⟩ := minOk_of hk
          refine ⟨a, us, ys, by rw [ev], hq, pdL_dp rx e1, h1, h2, h3, fun u hu => ?_⟩
          obtain ⟨d', hd', rd'⟩ := rx.get' hu
          rw [hd'] at p
          exact p.here st _ rd'
        · rw [if_neg hk] at p
          exact p.elim
    have no : listOf S d = none → False := fun el => by
      replace p : Post w W L H (QV w Q) (match listOf S d with
        | some xs => (match pdL xs with
          | some ys => if minOk ys = true then opt xs[bestAt ys]? S else .no
          | none => .no)
        | none => .no) := p
      rw [el] at p
      exact p
    cases rv with
    | @lst a us ds h n rr => exact key rfl (.of h) rr rfl
    | @ref a n h =>
      cases ec : cell S n with
      | none => exact (no ec).elim
      | some xs =>
        obtain ⟨us, hv, q⟩ := cell_ok ec st h
        exact key rfl (.of hv) q ec
    | _ => exact (no rfl).elim
  | [], p => exact (show False from p).elim
  | _ :: _ :: _, p => exact (show False from p).elim
theorem de_min1 (hu : X.A.units + 65 < cLine) (hm : X.mg "min" = none) (ha : DA X W (e :: es) fa) (hc : X.calm = true := by rfl) (hg : Gl X "min" := by rfl) (he : starEach (e :: es) X.env = (false, eval e X.env) :: starEach es X.env := by rfl) (hpl : (backTo pos (starEach es X.env)).any (·.1) = false := by rfl) :
    DE X W (.Call (.Name "min" p) (e :: es) [] pos) (eCB dMin1 fa) := de_callB (call_minD hc hu) cd_minD hm (by decide +kernel) ha hg (by decide) (by decide) he hpl
def dExtend : D → List D → Store → Res D
  | .ref n, [y], S => match cell S n, listOf S y with
    | some xs, some ys => if small (xs.length + ys.length) = true then .ok .non (S.set n (.lst (xs ++ ys))) else .no
    | _, _ => .no
  | _, _, _ => .no
theorem md_extend : MtD w rExtend dExtend := by
  intro W L H S x d vs ds Q st r rs p
  cases r with
  | @ref a n h =>
    match ds, p with
    | [y], p =>
      obtain ⟨v, rfl, rv⟩ := rep1 rs
      replace p : Post w W L H (QV w Q) (match cell S n, listOf S y with
        | some xs, some ys => if small (xs.length + ys.length) = true then .ok .non (S.set n (.lst (xs ++ ys))) else .no
        | _, _ => .no) := p
      cases e : cell S n with
      | none => simp only [e] at p; exact (show False from p).elim
      | some xs =>
        cases e2 : listOf S y with
        | none => simp only [e, e2] at p; exact (show False from p).elim
        | some ys =>
          simp only [e, e2] at p
          by_cases hz : small (xs.length + ys.length) = true
          · simp only [if_pos hz] at p
            obtain ⟨us, hv, q⟩ := cell_ok e st h
            have key : ∃ b zs, v = .ref b ∧ H b = some (.lst zs) ∧ RepL w L H zs ys := by
              cases rv with
              | @lst b zs ds hb hn rr => cases e2; exact ⟨b, zs, rfl, hb, rr⟩
              | @ref b m hb =>
                obtain ⟨zs, hz, rz⟩ := cell_ok e2 st hb
                exact ⟨b, zs, rfl, hz, rz⟩
              | _ => cases e2
            obtain ⟨b, zs, rfl, hb, rz⟩ := key
            refine ⟨a, b, us, zs, rfl, rfl, hv, hb, ?_, p.there (st.wr h hv) (st.write h hv (q.app rz)) _ .non⟩
            rw [q.len, rz.len]
            exact small_le hz
          · simp only [if_neg hz] at p
            exact p.elim
    | [], p | _ :: _ :: _, p => exact (show False from p).elim
  | _ => exact (show False from p).elim
theorem de_extend {o : Expr} {so : SE} {apos cpos : Pos} (ho : DE X W o so) (ha : DA X W (e :: es) fa)
    (hbase : attributeBase o "extend" X.env (eval o X.env) = eval o X.env := by rfl)
    (hfew : ((backTo cpos (starEach (e :: es) X.env)).all (fun x => !x.1) && (backToKw cpos (keywordEach [] X.env)).all (fun x => x.1.isSome)
      && decide ((e :: es).length + ([] : List Keyword).length + (if ([] : List Keyword).isEmpty then 0 else 1) < 30)) = true := by rfl)
    (hline : (apos.endLine == cpos.line) = true := by rfl) (hs : starEach (e :: es) X.env = (false, eval e X.env) :: starEach es X.env := by rfl) (hplain : (backTo cpos (starEach es X.env)).any (·.1) = false := by rfl) :
    DE X W (.Call (.Attribute o "extend" apos) (e :: es) [] cpos) (eBM isLs dExtend so fa) :=
  de_bm PySem.F.plainAttrs_list PySem.F.slot_list_extend PySem.F.type_list_extend mt_extend td_list md_extend ho ha hbase hfew hline hs hplain
end
end Ls
/-! LsP: sorted(set(x)) of a rising tuple of whole numbers; x[i] += e. -/
namespace Ls
open PySem PySem.Spec PyProof.Rows L2
section
variable {X : Cx} {W : XW} {w : Wd} {e : Expr} {es : List Expr} {fa : SA} {p pos : Pos}
def rSetT (K : PySem.W.Frag) (w : World) : List V → Hp → VK → Prop := fun vs H Q => ∃ (a : Addr) (ns : List Int), vs = [V.ref a] ∧ SqT K H a (ns.map V.int) ∧ ns.length < 60 ∧ ∀ p c, c ≤ ns.length → H p = none → Q (.ref p) (upd H p (SetO w p (fun j => decide (j ∈ ns)) c))
theorem scan60 : 61 < scanBound := by decide +kernel
theorem cr_setT (hc : X.calm = true) : CallR X (.type "set") (rSetT X.K X.w) := by
  intro pins s σ H vs us Q I r h
  obtain ⟨a, ns, rfl, hs, hn, q⟩ := h
  obtain ⟨its, rv, hl, _⟩ := I.tuple hs
  rw [Vals.ref1 r]
  refine call_set_tupI (items := its.toArray) ns (I.ok.hd hc) hl (by simpa using rv.ints) (by have := scan60; omega) fun h' tk c hR hc' hk => ?_
  exact ⟨.ref _, upd H s.heap.objs.size (SetO X.w s.heap.objs.size (fun j => decide (j ∈ ns)) c), I.laid hk (Nat.le_refl _) (setO_new hR), rfl, q _ c hc' (I.hok.fresh (Nat.le_refl _))⟩
def risingB : List Int → Bool
  | a :: b :: r => decide (a < b) && risingB (b :: r)
  | _ => true
theorem rising_pw : ∀ {l : List Int}, risingB l = true → l.Pairwise (· < ·)
  | [], _ => .nil
  | [_], _ => by simp
  | a :: b :: r, h => by
    simp only [risingB, Bool.and_eq_true, decide_eq_true_eq] at h
    have ih := rising_pw h.2
    refine .cons (fun c hc => ?_) ih
    rcases List.mem_cons.mp hc with rfl | hc
    · exact h.1
    · have := (List.pairwise_cons.mp ih).1 c hc
      omega
theorem rising_same : ∀ {a b : List Int}, a.Pairwise (· < ·) → b.Pairwise (· < ·) → (∀ k, k ∈ a ↔ k ∈ b) → a = b
  | [], [], _, _, _ => rfl
  | [], y :: b, _, _, h => absurd ((h y).mpr List.mem_cons_self) (by simp)
  | x :: a, [], _, _, h => absurd ((h x).mp List.mem_cons_self) (by simp)
  | x :: a, y :: b, ha, hb, h => by
    have ha1 := List.pairwise_cons.mp ha
    have hb1 := List.pairwise_cons.mp hb
    have e : x = y := by
      rcases List.mem_cons.mp ((h x).mp List.mem_cons_self) with h1 | h1
      · exact h1
      · rcases List.mem_cons.mp ((h y).mpr List.mem_cons_self) with h2 | h2
        · exact h2.symm
        · have := ha1.1 y h2
          have := hb1.1 x h1
          omega
    subst e
    rw [rising_same ha1.2 hb1.2 fun k => ⟨fun hk => ?_, fun hk => ?_⟩]
    · rcases List.mem_cons.mp ((h k).mp (List.mem_cons_of_mem _ hk)) with h1 | h1
      · have := ha1.1 k hk
        omega
      · exact h1
    · rcases List.mem_cons.mp ((h k).mpr (List.mem_cons_of_mem _ hk)) with h1 | h1
      · have := hb1.1 k hk
        omega
      · exact h1
def dSetS : D → Store → Res D
  | .tup xs, S => match intsOf xs with
    | some ns => if (Nat.ble ns.length 59 && risingB ns) = true then .ok (.lst (ns.map D.int)) S else .no
    | none => .no
  | _, _ => .no
def eSetS (f : SE) : SE := fun ρ S => (f ρ S).bind dSetS
theorem de_setS {a : Expr} {fa : SE} {p q pos pos' : Pos} (hm : X.mg "sorted" = none) (hm' : X.mg "set" = none) (ha : DE X W a fa) (hc : X.calm = true := by rfl) (hg : Gl X "sorted" := by rfl) (hg' : Gl X "set" := by rfl)
    (na : starEach [a] X.env = (false, eval a X.env) :: starEach [] X.env := by rfl) (ne : starEach [.Call (.Name "set" q) [a] [] pos'] X.env = (false, eval (.Call (.Name "set" q) [a] [] pos') X.env) :: starEach [] X.env := by rfl) :
    DE X W (.Call (.Name "sorted" p) [.Call (.Name "set" q) [a] [] pos'] [] pos) (eSetS fa) := by
  obtain ⟨t, pt, r⟩ := ha
  refine ⟨_, pe_callB (cr_sortedSet hc) hg hm (by decide +kernel) (pa_cons (pe_callTy (cr_setT hc) hg' hm' (by decide +kernel) (pa_cons pt pa_nil na) (by decide) (by decide) na rfl) pa_nil ne) (by decide) (by decide) ne rfl, fun ρ σ L H S Q er st p => r ρ σ L H S _ er st (p.step fun d S1 L1 H1 e1 s1 p1 v rv => ?_)⟩
  show rSetT X.K X.w [v] H1 fun y H2 => rSortedSet X.w [y] H2 Q
  cases rv <;> first | exact (show False from p1).elim | skip
  rename_i a' us ds h n rr
  replace p1 : Post (wd X W) W L1 H1 (QV (wd X W) Q) (match intsOf ds with
    | some ns => if (Nat.ble ns.length 59 && risingB ns) = true then .ok (.lst (ns.map D.int)) S1 else .no
    | none => .no) := p1
  cases ei : intsOf ds with
  | none => rw [ei] at p1; exact (show False from p1).elim
  | some ns =>
    rw [ei] at p1
    by_cases hk : (Nat.ble ns.length 59 && risingB ns) = true
    · simp only [if_pos hk] at p1
      simp only [Bool.and_eq_true, Nat.ble_eq] at hk
      have q := intsOf_rep ei rr
      subst q
      refine ⟨a', ns, rfl, .inl h, by omega, fun b c hcl hb => ⟨b, _, c, rfl, upd_same, by omega, fun ms b2 h1 h2 h3 h4 => ?_⟩⟩
      have e' : ms = ns := rising_same h1 (rising_pw hk.2) fun k => by rw [h2]; simp
      subst e'
      have s2 : Sto (wd X W) L1 (upd H1 b (SetO X.w b (fun j => decide (j ∈ ms)) c)) S1 := s1.new hb
      exact p1.there ((s1.ex hb).trans (s2.ex h4)) (s2.new h4) _ (.lst upd_same (s2.no h4) (repL_ints ms))
    · simp only [if_neg hk] at p1
      exact p1.elim
def rGetL (K : PySem.W.Frag) : V → V → Hp → VK → Prop := fun o i H Q => ∃ p xs k v, o = .ref p ∧ i = .int k ∧ 0 ≤ k ∧ SqL K H p xs ∧ xs[k.toNat]? = some v ∧ Q v H
theorem get_list : PGet X (rGetL X.K) := by
  intro pins s σ H o i ov iv Q I ro ri h
  obtain ⟨p, xs, k, z, rfl, rfl, h0, hq, he, q⟩ := h
  cases ro
  obtain ⟨t, rfl⟩ := ri
  obtain ⟨its, r, pl, hz⟩ := I.list hq
  obtain ⟨w, ew, rw'⟩ := r.get he
  have hl := r.length
  have hn := line63
  have hlt : k.toNat < xs.length := (List.getElem?_eq_some_iff.mp he).1
  exact wpAny_getItem_list pl.isList h0 (by omega) (by simpa using ew) ⟨z, H, I, rw', q⟩
/-- o[i] += e, o a cell -/
def getC : D → D → Store → Res Int
  | .ref n, .int i, S => match cell S n with
    | some xs => if decide (0 ≤ i) = true then (match xs[i.toNat]? with
      | some (.int x) => .ok x S
      | _ => .no) else .no
    | none => .no
  | _, _, _ => .no
def putC (ρ : Rho) (x : Int) : D → D → D → Store → Res Fl
  | .ref n, .int i, .int y, S => match cell S n with
    | some xs => (match ixN xs.length i with
      | some j => .ok (.nx ρ) (S.set n (.lst (xs.set j (.int (x + y)))))
      | none => .no)
    | none => .no
  | _, _, _, _ => .no
def sAugIx (fo fi fe : SE) : SS := fun ρ S => (fo ρ S).bind fun o S1 => (fi ρ S1).bind fun k S2 => (getC o k S2).bind fun x S3 => (fe ρ S3).bind fun d S4 => putC ρ x o k d S4
theorem ds_augIx {o i : Expr} {fo fi f : SE} {tpos : Pos} (ho : DE X W o fo) (hi : DE X W i fi) (he : DE X W e f)
    (ha : ∀ ov iv new, augStore i ov iv new = (do holding [new, ov, iv] (setItem ov iv new); release [new, ov, iv] []; pure .next) := by intros; rfl) : DS X W (.AugAssign (.Subscript o i tpos) .Add e pos) (sAugIx fo fi f) := by
  obtain ⟨te, pe, re⟩ := he
  obtain ⟨to, po, ro⟩ := ho
  obtain ⟨ti, pi, ri⟩ := hi
  refine ⟨_, ps_augS po pi get_list pe ip_add set_list ha, fun ρ σ L H S D er st p => ro ρ σ L H S _ er st (p.step fun o S1 L1 H1 e1 s1 p1 u ru => ri ρ σ L1 H1 S1 _ (er.mono e1) s1 (p1.step fun k S2 L2 H2 e2 s2 p2 z rz => ?_))⟩
  have ru2 := ru.mono e2
  cases rz with
  | int i =>
    cases ru2 with
    | @ref a n h =>
      cases ec : cell S2 n with
      | none => simp only [getC, ec, bind_no] at p2; exact (show False from p2).elim
      | some xs =>
        by_cases h0 : 0 ≤ i
        · cases ex : xs[i.toNat]? with
          | none => simp only [getC, ec, h0, decide_true, if_true, ex, bind_no] at p2; exact (show False from p2).elim
          | some dx =>
            cases dx with
            | int x =>
              simp only [getC, ec, h0, decide_true, if_true, ex, bind_ok] at p2
              obtain ⟨vs, hv, q⟩ := cell_ok ec s2 h
              obtain ⟨vx, evx, rvx⟩ := q.get ex
              cases rvx
              refine ⟨a, vs, i, .int x, rfl, rfl, h0, .of hv, evx, re ρ σ L2 H2 S2 _ ((er.mono e1).mono e2) s2 (p2.step fun d S3 L3 H3 e3 s3 p3 y ry => ?_)⟩
              have h3 := (Rep.ref (w := wd X W) (H := H2) h (.lst hv)).mono e3
              cases ry with
              | int y =>
                generalize hr : V.ref a = ra at h3
                cases h3 with
                | @ref a' n h' =>
                  cases hr
                  cases ec3 : cell S3 n with
                  | none => simp only [putC, ec3] at p3; exact (show False from p3).elim
                  | some xs3 =>
                    cases ej : ixN xs3.length i with
                    | none => simp only [putC, ec3, ej] at p3; exact (show False from p3).elim
                    | some j =>
                      simp only [putC, ec3, ej] at p3
                      obtain ⟨vs3, hv3, q3⟩ := cell_ok ec3 s3 h'
                      have exx : Ex L3 H3 L3 (upd H3 a (.lst (vs3.set j (.int (x + y))))) := s3.wr h' hv3
                      exact ⟨x, y, rfl, rfl, a, vs3, i, j, rfl, rfl, hv3, by rw [q3.len]; exact ej, p3.there exx (s3.write h' hv3 (q3.set (.int _) j)) σ ((((er.mono e1).mono e2).mono e3).mono exx)⟩
              | _ => exact (show False from p3).elim
            | _ => simp only [getC, ec, h0, decide_true, if_true, ex, bind_no] at p2; exact (show False from p2).elim
        · simp only [getC, ec, h0, decide_false, Bool.false_eq_true, if_false, bind_no] at p2; exact (show False from p2).elim
    | _ => exact (show False from p2).elim
  | _ => exact (show False from by cases o <;> exact p2).elim
theorem dss_never {b : List Stmt} : DSs X W b sNever := ⟨fun _ _ _ => False, ⟨fun pins s σ H D I h => h.elim⟩, fun ρ σ L H S D er st p => (show False from p)⟩
end
end Ls
/-! LsR: repr of things with {} in them; x.count(y) of a tuple. -/
namespace Ls
open PySem PySem.Spec PyProof.Rows L2
mutual
inductive Dy (K : PySem.W.Frag) (H : Hp) : V → PyData → Prop
  | non : Dy K H .non .none
  | bl (b : Bool) : Dy K H (.bl b) (.bool b)
  | int (i : Int) : Dy K H (.int i) (.int i)
  | str (x : Str) : Dy K H (.str x) (.str x)
  | emp {a : Addr} (h : H a = some (.dK [])) : Dy K H (.ref a) (.dict [])
  | tup {a : Addr} {xs : List V} {ds : List PyData} (h : SqT K H a xs) (r : DyAll K H xs ds) : Dy K H (.ref a) (.tuple ds)
inductive DyAll (K : PySem.W.Frag) (H : Hp) : List V → List PyData → Prop
  | nil : DyAll K H [] []
  | cons {v : V} {vs : List V} {d : PyData} {ds : List PyData} (h : Dy K H v d) (t : DyAll K H vs ds) : DyAll K H (v :: vs) (d :: ds)
end
section
variable {X : Cx} {pins : List (Addr × Obj)} {σ : L2.St} {H : Hp} {s : Shared}
mutual
theorem Dy.reads (I : Inv X pins σ H s) : ∀ {d : PyData} {v : V} {u : Value}, Dy X.K H v d → RelV v u → ∃ as, Reads s.heap u d as ∧ sysModules ∉ as
  | _, _, _, .non, r => by
    cases r
    exact ⟨_, Reads.none, by simp⟩
  | _, _, _, .bl b, r => by
    cases r
    exact ⟨_, Reads.bool b, by simp⟩
  | _, _, _, .int i, r => by
    obtain ⟨t, rfl⟩ := r
    exact ⟨_, Reads.int i t, by simp⟩
  | _, _, _, .str x, r => by
    obtain ⟨t, rfl⟩ := r
    exact ⟨_, Reads.str x t, by simp⟩
  | _, _, _, .emp h, r => by
    cases r
    obtain ⟨z, lo, vs, rk, hd⟩ := (show ObjOk X.prog X.w H s.heap _ (.dK []) from I.hok _ _ h)
    cases rk
    obtain ⟨o, es, ep, ho, hx, hdat, hk, hp, hn⟩ := hd
    have hes : es.toList = [] := by
      cases he : es.toList with
      | nil => rfl
      | cons e r => rw [he] at hp; cases hp
    refine ⟨_, Reads.dict (kvs := []) (as := []) (bs := []) ho hx.1 hdat (by rw [hes]; exact ReadsAll.nil) (by rw [hes]; exact ReadsAll.nil), ?_⟩
    intro hm
    simp only [List.append_nil, List.mem_singleton] at hm
    rw [← hm] at lo
    simp at lo
  | _, _, _, .tup h ra, r => by
    cases r
    obtain ⟨its, rv, ⟨o, ho, hc, n, hd⟩, _⟩ := I.tuple h
    obtain ⟨as, hr, hs⟩ := DyAll.reads I ra rv
    exact ⟨_, Reads.tuple ho hc hd hr, hs⟩
theorem DyAll.reads (I : Inv X pins σ H s) : ∀ {ds : List PyData} {vs : List V} {us : List Value}, DyAll X.K H vs ds → Vals vs us → ∃ as, ReadsAll s.heap us ds as ∧ sysModules ∉ as
  | _, _, _, .nil, r => by
    cases r
    exact ⟨_, ReadsAll.nil, by simp⟩
  | _, _, _, .cons h1 h2, r => by
    cases r with
    | cons r1 r2 =>
      obtain ⟨as, q1, n1⟩ := Dy.reads I h1 r1
      obtain ⟨bs, q2, n2⟩ := DyAll.reads I h2 r2
      exact ⟨_, ReadsAll.cons q1 q2, fun hm => (List.mem_append.mp hm).elim n1 n2⟩
end
end
section
variable {X : Cx} {W : XW} {w : Wd} {e : Expr} {es : List Expr} {fa : SA} {p pos : Pos}
def okReprX (x : PyData) : Bool := x.showable && Nat.ble x.depth 50 && small x.shown.length
def rReprX (K : PySem.W.Frag) : List V → Hp → VK → Prop := fun xs H Q => rReprD K xs H Q ∨ ∃ v x, xs = [v] ∧ Dy K H v x ∧ okReprX x = true ∧ Q (.str x.shown) H
theorem call_reprX (hg : X.A.guards = some []) (hu : X.A.units + 64 < cLine) : CallR X (.builtin "repr") (rReprX X.K) := by
  intro pins s σ H vs us Q I r h
  rcases h with h | ⟨v, x, rfl, hd, hk, q⟩
  · exact call_reprD hg hu pins s σ H vs us Q I r h
  · unfold okReprX at hk
    simp only [Bool.and_eq_true, Nat.ble_eq] at hk
    obtain ⟨⟨h1, h3⟩, h4⟩ := hk
    cases r with
    | cons rv rr =>
      cases rr
      have big : ∀ {a : Addr} {as : List Addr}, Reads s.heap (.ref a) x as → sysModules ∉ as → wpAny (model X.prog X.w) X.A (call (.builtin "repr") [.ref a]) (EP X pins σ Q) X.xe s := fun {a as} rd ns =>
        repr_of_reads' rd h1 (fun _ => ns) hg (by omega) (fun b o e => e) (fun h' u tk hk => ⟨.str x.shown, H, I.kept hk, ⟨_, rfl⟩, q⟩) (small_le h4)
      cases hd with
      | non => cases rv; exact P.repr_of_none ⟨.str _, H, I.tok _, ⟨_, rfl⟩, q⟩
      | bl b => cases rv; exact P.repr_of_bool ⟨.str _, H, I.tok _, ⟨_, rfl⟩, q⟩
      | int i =>
        obtain ⟨t, rfl⟩ := rv
        exact P.repr_of_int (by simpa [PyData.showable] using h1) ⟨.str _, H, I.tok _, ⟨_, rfl⟩, q⟩
      | str z =>
        obtain ⟨t, rfl⟩ := rv
        exact P.repr_of_str ⟨.str _, H, I.tok _, ⟨_, rfl⟩, q⟩ (small_le h4)
      | emp h =>
        cases rv
        obtain ⟨as, rd, ns⟩ := Dy.reads I (.emp h) rfl
        exact big rd ns
      | tup h ra =>
        cases rv
        obtain ⟨as, rd, ns⟩ := Dy.reads I (.tup h ra) rfl
        exact big rd ns
mutual
def pdx : D → Option PyData
  | .non => some .none
  | .bl b => some (.bool b)
  | .int i => some (.int i)
  | .str x => some (.str x)
  | .emp => some (.dict [])
  | .tup xs => (pdxL xs).map .tuple
  | _ => none
def pdxL : List D → Option (List PyData)
  | [] => some []
  | d :: r => match pdx d, pdxL r with
    | some x, some xs => some (x :: xs)
    | _, _ => none
end
mutual
theorem pdx_dy {L : Ly} {H : Hp} : ∀ {d : D} {v : V} {x : PyData}, Rep w L H v d → pdx d = some x → Dy w.K H v x
  | _, _, _, .non, e => by cases e; exact .non
  | _, _, _, .bl b, e => by cases e; exact .bl b
  | _, _, _, .int i, e => by cases e; exact .int i
  | _, _, _, .str z, e => by cases e; exact .str z
  | _, _, _, .tup h n r, e => by
    obtain ⟨xs, e1, rfl⟩ := Option.map_eq_some_iff.mp e
    exact .tup (.inl h) (pdxL_dy r e1)
  | _, _, _, .emp h n, e => by cases e; exact .emp h
  | _, _, _, .lst _ _ _, e => nomatch e
  | _, _, _, .scr _, e => nomatch e
  | _, _, _, .ref _ _, e => nomatch e
  | _, _, _, .dref _ _, e => nomatch e
  | _, _, _, .stup _ _ _ _, e => nomatch e
  | _, _, _, .opq _, e => nomatch e
  | _, _, _, .xtup _ _ _, e => nomatch e
  | _, _, _, .iref _ _, e => nomatch e
  | _, _, _, .gl _, e => nomatch e
  | _, _, _, .ty _, e => nomatch e
  | _, _, _, .err0 _ _, e => nomatch e
  | _, _, _, .err2 _ _ _ _ _ _, e => nomatch e
theorem pdxL_dy {L : Ly} {H : Hp} : ∀ {ds : List D} {vs : List V} {xs : List PyData}, RepL w L H vs ds → pdxL ds = some xs → DyAll w.K H vs xs
  | _, _, _, .nil, e => by cases e; exact .nil
  | d :: ds, _, _, .cons h t, e => by
    unfold pdxL at e
    cases e1 : pdx d with
    | none => rw [e1] at e; cases e
    | some x =>
      cases e2 : pdxL ds with
      | none => rw [e1, e2] at e; cases e
      | some ys =>
        rw [e1, e2] at e
        cases e
        exact .cons (pdx_dy h e1) (pdxL_dy t e2)
end
def dReprX : List D → Store → Res D
  | [d], S => match pdS S d with
    | some x => if okRepr x = true then .ok (.str x.shown) S else .no
    | none => (match pdx d with
      | some x => if okReprX x = true then .ok (.str x.shown) S else .no
      | none => .no)
  | _, _ => .no
theorem cd_reprX : CallD w (rReprX w.K) dReprX := by
  intro W L H S vs ds Q st r p
  match ds, p with
  | [d], p =>
    obtain ⟨v, rfl, rv⟩ := rep1 r
    replace p : Post w W L H (QV w Q) (match pdS S d with
      | some x => if okRepr x = true then .ok (.str x.shown) S else .no
      | none => (match pdx d with
        | some x => if okReprX x = true then .ok (.str x.shown) S else .no
        | none => .no)) := p
    cases e1 : pdS S d with
    | some x =>
      simp only [e1] at p
      by_cases hk : okRepr x = true
      · rw [if_pos hk] at p
        exact .inl ⟨v, x, rfl, pdS_dp st rv e1, hk, p.here st _ (.str _)⟩
      · rw [if_neg hk] at p
        exact p.elim
    | none =>
      simp only [e1] at p
      cases e2 : pdx d with
      | none => simp only [e2] at p; exact (show False from p).elim
      | some x =>
        simp only [e2] at p
        by_cases hk : okReprX x = true
        · rw [if_pos hk] at p
          exact .inr ⟨v, x, rfl, pdx_dy rv e2, hk, p.here st _ (.str _)⟩
        · rw [if_neg hk] at p
          exact p.elim
  | [], p => exact (show False from p).elim
  | _ :: _ :: _, p => exact (show False from p).elim
theorem de_reprX {k : Nat} (hr : RmG k X.A) (hm : X.mg "repr" = none) (ha : DA X W (e :: es) fa) (hg : Gl X "repr" := by rfl) (he : starEach (e :: es) X.env = (false, eval e X.env) :: starEach es X.env := by rfl) (hpl : (backTo pos (starEach es X.env)).any (·.1) = false := by rfl) :
    DE X W (.Call (.Name "repr" p) (e :: es) [] pos) (eCB dReprX fa) := de_callB (call_reprX (hr.gd rfl) hr.units) cd_reprX hm (by decide +kernel) ha hg (by decide) (by decide) he hpl
end
end Ls
/-! LsS: lists that are written, added; a def that hands back a pair with its own list. -/
namespace Ls
open PySem PySem.Spec PyProof.Rows L2
section
variable {X : Cx} {W : XW} {w : Wd}
/-- xs + ys, of lists that may be written -/
def dAddR : D → D → Store → Res D := fun a b S => match listOf S a, listOf S b with
  | some xs, some ys => mkLst (xs ++ ys) S
  | _, _ => .no
theorem listOf_rep {L : Ly} {H : Hp} {S : Store} {d : D} {xs : List D} {v : V} (e : listOf S d = some xs) (s : Sto w L H S) (r : Rep w L H v d) : ∃ a vs, v = .ref a ∧ H a = some (.lst vs) ∧ RepL w L H vs xs := by
  cases r with
  | @lst a vs ds h n r => cases e; exact ⟨a, vs, rfl, h, r⟩
  | @ref a n h =>
    obtain ⟨vs, hv, q⟩ := cell_ok e s h
    exact ⟨a, vs, rfl, hv, q⟩
  | _ => exact nomatch e
theorem od_addR : OpD w rCat dAddR := by
  intro W L H S x y a b Q st rx ry p
  unfold dAddR at p
  cases e1 : listOf S a with
  | none => simp only [e1] at p; exact (show False from p).elim
  | some xs =>
    cases e2 : listOf S b with
    | none => simp only [e1, e2] at p; exact (show False from p).elim
    | some ys =>
      simp only [e1, e2, mkLst] at p
      by_cases hz : small (xs ++ ys).length = true
      · rw [if_pos hz] at p
        obtain ⟨a', us, rfl, hu, ru⟩ := listOf_rep e1 st rx
        obtain ⟨b', zs, rfl, hv, rv⟩ := listOf_rep e2 st ry
        refine ⟨a', b', us, zs, rfl, rfl, hu, hv, ?_, fun q hq => ?_⟩
        · have := small_le hz
          rw [List.length_append] at this
          rw [ru.len, rv.len]
          exact this
        · exact p.there (st.ex hq) (st.new hq) _ (.lst upd_same (st.no hq) ((ru.app rv).mono (st.ex hq)))
      · rw [if_neg hz] at p
        exact p.elim
theorem de_addR {a b : Expr} {sa sb : SE} {pos : Pos} (ha : DE X W a sa) (hb : DE X W b sb) : DE X W (.BinOp a .Add b pos) (eOp dAddR sa sb) := de_op op_cat od_addR ha hb
end
section
variable {w : Wd} {L L1 : Ly} {H H1 : Hp} {S S1 : Store}
theorem Sto.subC {m : Nat} {a : Addr} (s : Sto w L H S) (e : Ex L H L1 H1) (h : L1.c[m]? = some a) : Sub S.length L1 (L.add a) := by
  obtain ⟨N, q⟩ := e.pre
  refine ⟨fun b z => ?_, fun i b hi hb => ?_⟩
  · rcases z with z | z
    · rcases List.mem_append.mp z with z | z
      · left
        rw [q]
        exact List.mem_append_left _ z
      · left
        rw [List.mem_singleton.mp z]
        exact List.mem_of_getElem? h
    · right
      rw [e.prv]
      exact z
  · show (L.c ++ [a])[i]? = some b
    rw [List.getElem?_append_left (by rw [s.len]; exact hi)]
    rw [q, List.getElem?_append_left (by rw [s.len]; exact hi)] at hb
    exact hb
end
open Classical in
/-- a pair of a list of the def's own and what knows nothing above -/
noncomputable def leaveT (S : Store) (d : D) (S1 : Store) : Res D := match d with
  | .tup [.ref m, e] => if m < S.length then .no else (match cell S1 m with
    | some xs => if Kept S S1 ∧ belowL S.length xs = true ∧ below S.length e = true then .ok (.tup [.ref S.length, e]) (S1.take S.length ++ [.lst xs]) else .no
    | none => .no)
  | _ => .no
open Classical in
theorem leaveT_ok : LvOk leaveT := by
  intro w W L L1 H H1 S S1 d v Q s e s1 r p
  have no : ∀ {d : D}, (∀ m e', d ≠ .tup [.ref m, e']) → leaveT S d S1 = .no := fun {d} hd => by
    unfold leaveT
    split
    · exact absurd rfl (hd _ _)
    · rfl
  by_cases hd : ∃ m e', d = .tup [.ref m, e']
  · obtain ⟨m, e', rfl⟩ := hd
    cases r with
    | @tup b vs _ hb nb rr =>
      cases rr with
      | cons r1 rr =>
        cases rr with
        | cons r2 rr =>
          cases rr
          cases r1 with
          | @ref a _ h kr =>
            rename_i v2
            replace p : Post w W L H (QV w Q) (if m < S.length then .no else (match cell S1 m with
              | some xs => if Kept S S1 ∧ belowL S.length xs = true ∧ below S.length e' = true then .ok (.tup [.ref S.length, e']) (S1.take S.length ++ [.lst xs]) else .no
              | none => .no)) := p
            by_cases hm : m < S.length
            · rw [if_pos hm] at p; exact p.elim
            · rw [if_neg hm] at p
              cases ec : cell S1 m with
              | none => simp only [ec] at p; exact (show False from p).elim
              | some xs =>
                simp only [ec] at p
                by_cases hk : Kept S S1 ∧ belowL S.length xs = true ∧ below S.length e' = true
                · rw [if_pos hk] at p
                  obtain ⟨ex, st⟩ := s.cutC e s1 hk.1 h (Nat.le_of_not_lt hm) ec hk.2.1
                  have sb := s.subC e h
                  refine p.there ex st _ (.tup hb (fun z => nb (sb.mem b z)) (.cons (.ref ?_ kr) (.cons (r2.sub sb hk.2.2) .nil)))
                  show (L.c ++ [a])[S.length]? = some a
                  rw [← s.len, List.getElem?_append_right (Nat.le_refl _), Nat.sub_self]
                  rfl
                · rw [if_neg hk] at p
                  exact p.elim
  · rw [no fun m e' z => hd ⟨m, e', z⟩] at p
    exact (show False from p).elim
end Ls
/-! LsT: an own error with two fields. -/
namespace Ls
open PySem PySem.Spec PyProof.Rows L2
section
variable {X : Cx} {e : Expr} {es : List Expr} {ta : TA} {p1 p2 pos : Pos}
/-- Base.__init__(self, ..), Base an own class that has ValueError's -/
theorem pe_swinit {x : Str} {CS : Addr} {pl : Sem Bool} (hg : Gl X x) (hm : X.mg x = some (.ref CS)) (hsp : PySem.W.specialIn X.K (.ref CS) "__getattribute__" = some (some (.builtin "type.__getattribute__"))) (hty : PySem.W.typeIn X.K (.ref CS) = some (.type "type"))
    (hrd : PySem.W.readsIn X.K CS (.type "type") = true) (hfc : PySem.W.findCls X.K (.ref CS) (.type "type") "__init__" = some (.val (.builtin "ValueError.__init__"))) (ha : PA X (e :: es) ta)
    (hc : eval (.Call (.Attribute (.Name x p1) "__init__" p2) (e :: es) [] pos) X.env = (do
      let ov ← eval (.Name x p1) X.env
      standAt p2.atName
      let (mth, own) ← holding [ov] (getMethod ov "__init__" pl)
      callWith pos mth own (backTo pos (starEach (e :: es) X.env)) (backToKw pos (keywordEach [] X.env))) := by rfl)
    (hdb : (x == ("__debug__" : Str)) = false := by decide) (he : starEach (e :: es) X.env = (false, eval e X.env) :: starEach es X.env := by rfl) (hpl : (backTo pos (starEach es X.env)).any (·.1) = false := by rfl) :
    PE X (.Call (.Attribute (.Name x p1) "__init__" p2) (e :: es) [] pos) (tVeI X.K ta) := by
  refine ⟨fun pins s σ H Q I h => ?_⟩
  refine PySem.W.methodCall_KW (ld_glob I hg hm ?_ hdb) hc
  obtain ⟨m, fr⟩ := I.fr
  refine PySem.W.method_of_cls fr I.ok.mod.kin hsp (PySem.W.cls_val fr I.ok.mod.kin hty hrd hfc (by decide +kernel) ?_)
  have hgo := fun n => ha.run pos pins _ σ H _ (I.tok n) h
  refine PyProof.Rows.callWith_method1 (id := "ValueError.__init__") (first := []) (thn (hgo _) fun us sZ hz => ?_) he hpl
  obtain ⟨vs, HZ, IZ, rZ, a, C, ws, ev, hl, OC, ea, qZ⟩ := hz
  subst ev
  cases rZ with
  | @cons _ uZ _ uT rA rT =>
    have eZ : uZ = Value.ref a := rA
    subst eZ
    have few : uT.length ≤ sizeLine := by have hT := Paired.length rT; rw [sizeLine_eq]; omega
    exact oinit_ok OC IZ ea few fun sE J => ⟨.non, HZ, J, rfl, qZ⟩
/-- what C(y, z)'s own __init__ does -/
def spInit (K : PySem.W.Frag) : Sp := fun vs H Q _ => ∃ (a C : Addr) (y z : V), vs = [.ref a, y, z] ∧ OexC K C ∧ PySem.W.findIn K (.ref C) "many" = some none ∧ PySem.W.findIn K (.ref C) "most" = some none ∧ H a = some (exo a C none) ∧
  ∀ dx, H dx = none → dx ≠ a → Q .non (upd (upd (upd H dx (exd dx [("many", y)])) a (exo a C (some dx))) dx (exd dx [("most", z), ("many", y)]))
end
section
variable {P : Program} {w : World} {K : PySem.W.Frag} {mg : Str → Option Value} {base : Heap}
theorem init_ok {x qual m : Str} {st : Stmt} {f CS : Addr} {fd : FuncData} {j : Nat} {q1 q2 q3 q4 q5 q6 q7 q8 q9 q10 q11 q12 q13 q14 : Pos} (Fn : Fun K x qual st f fd) (Sc : FnScope ["self", "many", "most"] ["self", "many", "most"] (defScope st))
    (hb : defBody st = [.Expr (.Call (.Attribute (.Name "SwitchError" q1) "__init__" q2) [.Name "self" q3, .Constant (.str m) j q4] [] q5) q6, .Assign [.Attribute (.Name "self" q7) "many" q8] (.Name "many" q9) q10, .Assign [.Attribute (.Name "self" q11) "most" q12] (.Name "most" q13) q14])
    (hc : ∀ env, ∃ pl : Sem Bool, eval (.Call (.Attribute (.Name "SwitchError" q1) "__init__" q2) [.Name "self" q3, .Constant (.str m) j q4] [] q5) env = (do
      let ov ← eval (.Name "SwitchError" q1) env
      standAt q2.atName
      let (mth, own) ← holding [ov] (getMethod ov "__init__" pl)
      callWith q5 mth own (backTo q5 (starEach [.Name "self" q3, .Constant (.str m) j q4] env)) (backToKw q5 (keywordEach [] env))))
    (hm : mg "SwitchError" = some (.ref CS)) (hgl : (defScope st).names.lookup ("SwitchError" : Str) = some .globalImplicit) (hlo : (defScope st).names.lookup ("self" : Str) = some .local ∧ (defScope st).names.lookup ("many" : Str) = some .local ∧ (defScope st).names.lookup ("most" : Str) = some .local)
    (hsp : PySem.W.specialIn K (.ref CS) "__getattribute__" = some (some (.builtin "type.__getattribute__"))) (hty : PySem.W.typeIn K (.ref CS) = some (.type "type"))
    (hrd : PySem.W.readsIn K CS (.type "type") = true) (hfc : PySem.W.findCls K (.ref CS) (.type "type") "__init__" = some (.val (.builtin "ValueError.__init__"))) :
    FnOk P w K mg base (L2.CX P w) 1 f fd ["self", "many", "most"] (spInit K) := by
  refine ⟨fun vs H Q E h => ?_, fun A outer s H args us vs Q E hrg e0 hbd rvs h => ?_⟩
  · obtain ⟨a, C, y, z, rfl, _⟩ := h
    rfl
  · obtain ⟨oc, od, kV, doc, pm, an, cdv, ct, osl, rfl, lk, hcd⟩ := Fn.ex
    obtain ⟨a, C, y, z, rfl, T, n1, n2, ha, hq⟩ := h
    refine LamX.run_ofS lk hcd Sc hrg e0 hbd rvs rfl fun hr => ?_
    have nd : (["self", "many", "most"] : List Str).Nodup := Sc.nd
    rw [hb]
    have v0 : ∀ q, PE (cxOf (L2.CX P w) P w K mg base ["self", "many", "most"] qual (defScope st) f cdv A outer s H E) (.Name "self" q) (tVar 0) := fun q => pe_var (i := 0) (x := "self") rfl (.inl hlo.1)
    have v1 : ∀ q, PE (cxOf (L2.CX P w) P w K mg base ["self", "many", "most"] qual (defScope st) f cdv A outer s H E) (.Name "many" q) (tVar 1) := fun q => pe_var (i := 1) (x := "many") rfl (.inl hlo.2.1)
    have v2 : ∀ q, PE (cxOf (L2.CX P w) P w K mg base ["self", "many", "most"] qual (defScope st) f cdv A outer s H E) (.Name "most" q) (tVar 2) := fun q => pe_var (i := 2) (x := "most") rfl (.inl hlo.2.2)
    obtain ⟨pl, hpl⟩ := hc (cxOf (L2.CX P w) P w K mg base ["self", "many", "most"] qual (defScope st) f cdv A outer s H E).env
    refine ⟨_, pss_cons (ps_expr (pe_swinit (X := cxOf (L2.CX P w) P w K mg base ["self", "many", "most"] qual (defScope st) f cdv A outer s H E) hgl hm hsp hty hrd hfc (pa_cons (v0 q3) (pa_cons pe_str pa_nil)) hpl)) (pss_cons (ps_ost (v0 q7) (v1 q9)) (pss_one (ps_ost (v0 q11) (v2 q13)))), ?_⟩
    refine ⟨.ref a, rfl, a, C, [.str m], rfl, by simp, T, ha, ?_⟩
    refine ⟨y, rfl, .ref a, rfl, a, C, rfl, T, n1, .inl ⟨ha, fun dx hdx hne => ?_⟩⟩
    refine ⟨z, rfl, .ref a, rfl, a, C, rfl, T, n2, .inr ⟨dx, [("many", y)], upd_same, ?_, by simp, hq dx hdx hne⟩⟩
    rw [upd_ne hne]
    exact upd_same
end
/-! ### raise x(y, z) -/
section
variable {X : Cx} {W : XW} {e : Expr} {es : List Expr} {p p3 pos : Pos}
/-- an own class of refusals with two fields -/
structure ErrM (K : PySem.W.Frag) (mg : Str → Option Value) (x : Str) (C : Addr) : Prop where
  o : OexC K C
  g : mg x = some (.ref C)
  m1 : PySem.W.findIn K (.ref C) "many" = some none
  m2 : PySem.W.findIn K (.ref C) "most" = some none
def sRaise2 (x : Str) (fa : SA) : SS := fun ρ S => (fa ρ S).bind fun ds S1 => match ds with
  | [a, b] => .exc x [a, b] S1
  | _ => .no
theorem ds_raise2 {x : Str} {C fI : Addr} {k : Nat} {fd : FuncData} {fa : SA} (tk : Takes X fun cls d _ H => W.wish cls d H) (E : ErrM X.K X.mg x C) (iC : PySem.W.findIn X.K (.ref C) "__init__" = some (some (.ref fI))) (tI : PySem.W.typeIn X.K (.ref fI) = some (.type "function"))
    (F1 : FnOk X.prog X.w X.K X.mg X.base (L2.CX X.prog X.w) k fI fd ["self", "many", "most"] (spInit X.K)) (hr : Room (k + 1) X.A) (hb : Binds X.K fd ["self", "many", "most"] []) (ha : DA X W (e :: es) fa)
    (hg : Gl X x := by rfl) (hc : X.calm = true := by rfl) (hdb : (x == ("__debug__" : Str)) = false := by decide) (he : starEach (e :: es) X.env = (false, eval e X.env) :: starEach es X.env := by rfl) (hpl : (backTo p3 (starEach es X.env)).any (·.1) = false := by rfl) :
    DS X W (.Raise (some (.Call (.Name x p) (e :: es) [] p3)) none pos) (sRaise2 x fa) := by
  obtain ⟨t, q, r⟩ := ha
  have hx : Passes (L2.CX X.prog X.w) X (fun _ _ _ => False) := passes_call tk fun _ _ _ _ h => h.elim
  refine ⟨_, ps_raise hc tk (pmk_oex E.o iC tI F1 hr hb .nil hx hg E.g q hdb he hpl), fun ρ σ L H S D er st p => r ρ σ L H S _ er st (p.step fun ds S1 L1 H1 e1 s1 p1 vs rs => ?_)⟩
  match ds, rs, p1 with
  | [da, db], .cons (v := va) ra (.cons (v := vb) rb .nil), p1 =>
    refine ⟨by simp, fun a ha => ⟨a, C, va, vb, rfl, E.o, E.m1, E.m2, upd_same, fun dx hdx hne => ⟨rfl, dx, [("most", vb), ("many", va)], ?_, upd_same, ?_, ?_⟩⟩⟩
    · rw [upd_ne (Ne.symm hne)]
      exact upd_same
    · rw [← upd_ne (H := H1) (o := exo a C none) hne]
      exact hdx
    · have hdx1 : H1 dx = none := by rw [← upd_ne (H := H1) (o := exo a C none) hne]; exact hdx
      have hH : upd (del (upd (upd (upd (upd H1 a (exo a C none)) dx (exd dx [("many", va)])) a (exo a C (some dx))) dx (exd dx [("most", vb), ("many", va)])) a) dx (.xd [("most", vb), ("many", va)]) = upd H1 dx (.xd [("most", vb), ("many", va)]) := by
        funext b
        by_cases h1 : b = dx
        · rw [h1, upd_same, upd_same]
        · rw [upd_ne h1, upd_ne h1]
          by_cases h2 : b = a
          · rw [h2, del_same, ha]
          · rw [del_ne h2, upd_ne h1, upd_ne h2, upd_ne h1, upd_ne h2]
      rw [hH]
      cases W with | mk T E' er' => cases E' with
      | none => exact (show False from p1).elim
      | some E' =>
        refine p1 L1 _ C (some dx) (s1.ex hdx1) (s1.new hdx1) E.g ?_
        exact ⟨dx, va, vb, rfl, upd_same, s1.no hdx1, ra.mono (s1.ex hdx1), rb.mono (s1.ex hdx1)⟩
  | [], rs, p1 => exact (show False from p1).elim
  | [_], rs, p1 => exact (show False from p1).elim
  | _ :: _ :: _ :: _, rs, p1 => exact (show False from p1).elim
end
/-! ### its facts, out of the written part -/
def oexB (K : PySem.W.Frag) (C : Addr) : Bool := match K.lookup C with
  | some ⟨.type "type", _, .cls cd, sl⟩ => (match cd.mro, sl.toList with
    | .ref D :: bm, [_, _, _, _, some (.builtin n), _] => D == C && n == "ValueError.__new__" && !cd.hasDel && cd.hasDict && PySem.HandSPX.refsVE bm
    | _, _ => false)
  | _ => false
theorem oexB_ok {K : PySem.W.Frag} {C : Addr} (h : oexB K C = true) (sa : PySem.W.findIn K (.ref C) "__setattr__" = some (some (.builtin "object.__setattr__"))) (eC : PySem.W.subIn K (.ref C) (.type "BaseException") = some true)
    (tC : PySem.W.typeIn K (.ref C) = some (.type "type")) (kC : PySem.W.keepIn K (.ref C) = true) : OexC K C := by
  refine ⟨?_, sa, eC, tC, kC⟩
  unfold oexB at h
  split at h
  · rename_i dd cd sl hl
    split at h
    · rename_i D bm k0 k1 k2 k3 n k5 hm hs
      simp only [Bool.and_eq_true, beq_iff_eq, Bool.not_eq_true'] at h
      obtain ⟨⟨⟨⟨rfl, rfl⟩, hd⟩, hc⟩, hr⟩ := h
      obtain ⟨nm, bs, mro, ns, q, hdct, sn, sub, ab, col, del⟩ := cd
      simp only at hm hd hc
      subst hm hd hc
      have es : sl = #[k0, k1, k2, k3, some (.builtin "ValueError.__new__"), k5] := by
        rw [← Array.toArray_toList (xs := sl), hs]
      subst es
      exact ⟨nm, q, ns, bs, bm, sn, sub, ab, col, dd, k0, k1, k2, k3, k5, hl, hr⟩
    · cases h
  · cases h
theorem ErrM.n1 {K : PySem.W.Frag} {mg : Str → Option Value} {x : Str} {C : Addr} (E : ErrM K mg x C) : ∀ D, mg x = some (.ref D) → PySem.W.findIn K (.ref D) "many" = some none := fun D h => by
  have e := E.g.symm.trans h
  cases e
  exact E.m1
theorem ErrM.n2 {K : PySem.W.Frag} {mg : Str → Option Value} {x : Str} {C : Addr} (E : ErrM K mg x C) : ∀ D, mg x = some (.ref D) → PySem.W.findIn K (.ref D) "most" = some none := fun D h => by
  have e := E.g.symm.trans h
  cases e
  exact E.m2
/-- the j-th statement of a class -/
def clsSt (s : Stmt) (j : Nat) : Stmt := (C8.clsBody s).getD j (.Pass ⟨0, 0, 0, 0⟩)
/-! ### str(i) -/
def rStrI : List V → Hp → VK → Prop := fun xs H Q => ∃ i : Int, xs = [.int i] ∧ i.natAbs.log2 < 1920 ∧ Q (.str (toString i)) H
def dStr : List D → Store → Res D
  | [.int i], S => if Nat.ble i.natAbs 1000000000 = true then .ok (.str (toString i)) S else .no
  | _, _ => .no
theorem cd_str {w : Wd} : CallD w rStrI dStr := by
  intro W L H S vs ds Q st r p
  match ds, p with
  | [d], p =>
    obtain ⟨v, rfl, rv⟩ := rep1 r
    cases rv with
    | int i =>
      replace p : Post w W L H (QV w Q) (if Nat.ble i.natAbs 1000000000 = true then .ok (.str (toString i)) S else .no) := p
      by_cases hk : Nat.ble i.natAbs 1000000000 = true
      · rw [if_pos hk] at p
        refine ⟨i, rfl, ?_, p.here st _ (.str _)⟩
        have h1 := Nat.le_of_ble_eq_true hk
        by_cases hz : i.natAbs = 0
        · rw [hz]; decide
        · exact (Nat.log2_lt hz).mpr (Nat.lt_of_le_of_lt h1 (Nat.lt_of_lt_of_le (by decide : 1000000000 < 2 ^ 30) (Nat.pow_le_pow_right (by decide) (by decide))))
      · rw [if_neg hk] at p
        exact p.elim
    | _ => exact (show False from p).elim
  | [], p => exact (show False from p).elim
  | _ :: _ :: _, p => exact (show False from by rename_i d _ _; cases d <;> exact p).elim
theorem de_str1 {X : Cx} {W : XW} {e : Expr} {es : List Expr} {fa : SA} {p pos : Pos} (hm : X.mg "str" = none) (ha : DA X W (e :: es) fa) (hg : Gl X "str" := by rfl) (he : starEach (e :: es) X.env = (false, eval e X.env) :: starEach es X.env := by rfl) (hpl : (backTo pos (starEach es X.env)).any (·.1) = false := by rfl) :
    DE X W (.Call (.Name "str" p) (e :: es) [] pos) (eCB dStr fa) := de_callTy call_str_int cd_str hm (by decide +kernel) ha hg (by decide) (by decide) he hpl
/-! ### a, b, c = e1, e2, e3 -/
def sPar3 (i j l : Nat) (f : SA) : SS := fun ρ S => (f ρ S).bind fun ds S1 => match ds with
  | [x, y, z] => .ok (.nx (((ρ.set i (some x)).set j (some y)).set l (some z))) S1
  | _ => .no
theorem ds_par3 {X : Cx} {W : XW} {pos : Pos} {i j l : Nat} {x y z : Str} {a b c : Expr} {fa : SA} {px py pz pt : Pos} {kt k2 : Nat} {pt2 : Pos} (hN : X.N.Nodup) (hij : i ≠ j) (hil : i ≠ l) (hjl : j ≠ l) (ha : DA X W [a, b, c] fa)
    (hw : swappedStores [.Tuple [.Name x px, .Name y py, .Name z pz] kt pt] (.Tuple [a, b, c] k2 pt2) X.env = pure (some [x, y, z]) := by rfl) (hi : X.N[i]? = some x := by rfl) (hj : X.N[j]? = some y := by rfl) (hl : X.N[l]? = some z := by rfl)
    (hx : X.env.scope.names.lookup x = some .local := by rfl) (hy : X.env.scope.names.lookup y = some .local := by rfl) (hz : X.env.scope.names.lookup z = some .local := by rfl)
    (hs : swapsWithSole [.Tuple [.Name x px, .Name y py, .Name z pz] kt pt] (.Tuple [a, b, c] k2 pt2) pos.line X.env = pure false := by rfl) (hc : X.calm = true := by rfl) :
    DS X W (.Assign [.Tuple [.Name x px, .Name y py, .Name z pz] kt pt] (.Tuple [a, b, c] k2 pt2) pos) (sPar3 i j l fa) := by
  obtain ⟨t, p, r⟩ := ha
  refine ⟨_, ps_par3 hc hN hi hj hl hij hil hjl hx hy hz p hw hs, fun ρ σ L H S D er st p => r ρ σ L H S _ er st (p.step fun ds S1 L1 H1 e1 s1 p1 vs rs => ?_)⟩
  match ds, rs, p1 with
  | [_, _, _], .cons (v := v1) r1 (.cons (v := v2) r2 (.cons (v := v3) r3 .nil)), p1 => exact ⟨v1, v2, v3, rfl, p1.here s1 _ ((((er.mono e1).set i r1).set j r2).set l r3)⟩
  | [], _, p1 => exact (show False from p1).elim
  | [_], _, p1 => exact (show False from p1).elim
  | [_, _], _, p1 => exact (show False from p1).elim
  | _ :: _ :: _ :: _ :: _, _, p1 => exact (show False from p1).elim
/-! ### max(xs) of numbers -/
def maxI : Int → List Int → Int
  | n, [] => n
  | n, k :: r => maxI (if n < k then k else n) r
theorem maxI_ge : ∀ (r : List Int) (n : Int), n ≤ maxI n r ∧ ∀ y, y ∈ r → y ≤ maxI n r
  | [], n => ⟨Int.le_refl _, fun _ h => nomatch h⟩
  | k :: r, n => by
    obtain ⟨h1, h2⟩ := maxI_ge r (if n < k then k else n)
    show n ≤ maxI (if n < k then k else n) r ∧ ∀ y, y ∈ k :: r → y ≤ maxI (if n < k then k else n) r
    refine ⟨Int.le_trans (by split <;> omega) h1, fun y hy => ?_⟩
    rcases List.mem_cons.mp hy with rfl | hy
    · exact Int.le_trans (by split <;> omega) h1
    · exact h2 y hy
theorem maxI_mem : ∀ (r : List Int) (n : Int), maxI n r ∈ n :: r
  | [], n => List.mem_cons_self
  | k :: r, n => by
    have h := maxI_mem r (if n < k then k else n)
    show maxI (if n < k then k else n) r ∈ n :: k :: r
    rcases List.mem_cons.mp h with h | h
    · rw [h]
      split
      · exact List.mem_cons_of_mem _ List.mem_cons_self
      · exact List.mem_cons_self
    · exact List.mem_cons_of_mem _ (List.mem_cons_of_mem _ h)
def dMax1 : List D → Store → Res D
  | [d], S => match listOf S d with
    | some ds => (match intsOf ds with
      | some (n :: ns) => .ok (.int (maxI n ns)) S
      | _ => .no)
    | none => .no
  | _, _ => .no
theorem cd_maxI {w : Wd} : CallD w (rMax w.K) dMax1 := by
  intro W L H S vs ds Q st r p
  match ds, p with
  | [d], p =>
    obtain ⟨v, rfl, rv⟩ := rep1 r
    replace p : Post w W L H (QV w Q) (match listOf S d with
      | some ds => (match intsOf ds with
        | some (n :: ns) => .ok (.int (maxI n ns)) S
        | _ => .no)
      | none => .no) := p
    have key : ∀ {a : Addr} {us : List V} {xs : List D}, v = .ref a → SqL w.K H a us → RepL w L H us xs → listOf S d = some xs → rMax w.K [v] H Q := fun {a us xs} ev hq rx el => by
      rw [el] at p
      simp only at p
      cases e1 : intsOf xs with
      | none => simp only [e1] at p; exact (show False from p).elim
      | some ns =>
        cases ns with
        | nil => simp only [e1] at p; exact (show False from p).elim
        | cons n ns =>
          simp only [e1] at p
          have q := intsOf_rep e1 rx
          refine ⟨a, n :: ns, by rw [ev], by rw [← q]; exact hq, by simp, fun m hm hub => ?_⟩
          have e2 : m = maxI n ns := by
            have h1 := hub _ (maxI_mem ns n)
            have h2 := maxI_ge ns n
            rcases List.mem_cons.mp hm with rfl | hm
            · omega
            · have := h2.2 m hm
              omega
          rw [e2]
          exact p.here st _ (.int _)
    have no : listOf S d = none → False := fun el => by
      rw [el] at p
      exact p
    cases rv with
    | @lst a us ds h n rr => exact key rfl (.of h) rr rfl
    | @ref a n h =>
      cases ec : cell S n with
      | none => exact (no ec).elim
      | some xs =>
        obtain ⟨us, hv, q⟩ := cell_ok ec st h
        exact key rfl (.of hv) q ec
    | _ => exact (no rfl).elim
  | [], p => exact (show False from p).elim
  | _ :: _ :: _, p => exact (show False from p).elim
theorem de_max1 {X : Cx} {W : XW} {e : Expr} {es : List Expr} {fa : SA} {p pos : Pos} (hu : X.A.units + 65 < cLine) (hm : X.mg "max" = none) (ha : DA X W (e :: es) fa) (hc : X.calm = true := by rfl) (hg : Gl X "max" := by rfl) (he : starEach (e :: es) X.env = (false, eval e X.env) :: starEach es X.env := by rfl) (hpl : (backTo pos (starEach es X.env)).any (·.1) = false := by rfl) :
    DE X W (.Call (.Name "max" p) (e :: es) [] pos) (eCB dMax1 fa) := de_callB (cr_max hc) cd_maxI hm (by decide +kernel) ha hg (by decide) (by decide) he hpl
end Ls
/-! LsV: tuples of whole numbers held against one another by <=. -/
namespace Ls
open PySem PySem.Spec PyProof.Rows L2
section
variable {X : Cx} {W : XW} {w : Wd} {a b : Expr} {sa sb : SE} {pos : Pos}
def leT (ns ms : List Int) : Bool := _root_.Ob.lexAt (fun j => decide (ns.getD j 0 = ms.getD j 0)) (fun j => decide (ns.getD j 0 ≤ ms.getD j 0)) (decide (ns.length ≤ ms.length)) 0 (min ns.length ms.length)
def dLe2 : D → D → Store → Res D
  | .int i, .int j, S => .ok (.bl (decide (i ≤ j))) S
  | .tup xs, .tup ys, S => match intsOf xs, intsOf ys with
    | some ns, some ms => .ok (.bl (leT ns ms)) S
    | _, _ => .no
  | _, _, _ => .no
theorem od_le2 : OpD w (fun x y H Q => rI0 (fun i j => .bl (decide (i ≤ j))) x y H Q ∨ rLeT w.K x y H Q) dLe2 := by
  intro W L H S x y a b Q st rx ry p
  cases rx <;> cases ry <;> first | exact (show False from p).elim | skip
  case int.int i j => exact .inl ⟨i, j, rfl, rfl, p.here st _ (.bl _)⟩
  case tup.tup a xs ds h n r b ys es h' n' r' =>
    replace p : Post w W L H (QV w Q) (match intsOf ds, intsOf es with
      | some ns, some ms => .ok (.bl (leT ns ms)) S
      | _, _ => .no) := p
    cases e1 : intsOf ds with
    | none => rw [e1] at p; exact (show False from p).elim
    | some ns =>
      cases e2 : intsOf es with
      | none => rw [e1, e2] at p; exact (show False from p).elim
      | some ms =>
        rw [e1, e2] at p
        have q1 := intsOf_rep e1 r
        have q2 := intsOf_rep e2 r'
        subst q1 q2
        exact .inr ⟨a, b, ns, ms, rfl, rfl, .inl h, .inl h', p.here st _ (.bl _)⟩
theorem de_le2 (hu : X.A.units < cLine) (ha : DE X W a sa) (hb : DE X W b sb) : DE X W (.Compare a [.LtE] [b] pos) (eOp dLe2 sa sb) := de_cmp (op_le.or (op_leT hu)) od_le2 ha hb (nomark _)
theorem dt_le2 (hu : X.A.units < cLine) (ha : DE X W a sa) (hb : DE X W b sb) : DT X W (.Compare a [.LtE] [b] pos) (tOfE (eOp dLe2 sa sb)) := dt_cmp (op_le.or (op_leT hu)) od_le2 ha hb (nomark _)
end
end Ls
/-! LsU: texts. -/
namespace Ls
open PySem PySem.Spec PyProof.Rows L2
section
variable {X : Cx} {W : XW} {w : Wd} {e : Expr} {es : List Expr} {fa : SA} {p pos : Pos}
/-! ### a text, sign by sign -/
def signs (x : Str) : List D := x.cps.toList.map fun c => .str ⟨#[c]⟩
def walkedS (d : D) (S : Store) : Res Items := match d with
  | .str x => .ok (signs x, []) S
  | _ => .no
def iStrS (f : SE) : SI := fun ρ S => (f ρ S).bind walkedS
theorem wk_str {L : Ly} {H : Hp} (x : Str) : Wk w L H (Its x) (signs x, []) := by
  intro i L' H' S e s _
  refine ⟨fun d hd => ?_, fun hl => ?_⟩
  · unfold signs at hd
    rw [List.getElem?_map] at hd
    obtain ⟨c, hc, rfl⟩ := Option.map_eq_some_iff.mp hd
    rw [Array.getElem?_toList] at hc
    refine ⟨(Array.getElem?_eq_some_iff.mp hc).1, fun v H2 y => ?_⟩
    obtain ⟨rfl, c', hc', rfl⟩ := y
    rw [hc] at hc'
    cases hc'
    exact ⟨Ex.refl _ _, s, .str _⟩
  · have : (signs x).length = x.cps.size := by simp [signs]
    show x.cps.size ≤ i
    rw [← this]
    exact Nat.le_of_eq hl
theorem di_str {tg e : Expr} {f : SE} (h : DE X W e f) : DI X W tg e (iStrS f) := by
  obtain ⟨t, q, r⟩ := h
  refine ⟨_, pi_str q, fun ρ σ L H S R er st p => r ρ σ L H S _ er st (p.step fun d S1 L1 H1 e1 s1 p1 v rv => ?_)⟩
  cases rv <;> first | exact (show False from p1).elim | skip
  rename_i x
  exact ⟨x, rfl, (show Post (wd X W) W L1 H1 (fun its _ L' H' => ∀ J, Wk (wd X W) L' H' J its → R J H') (.ok (signs x, []) S1) from p1).here s1 _ (wk_str x)⟩
/-! ### methods -/
def isSt : D → Bool
  | .str _ => true
  | _ => false
theorem td_str : TyD w "str" isSt := by
  intro L H S x d s r k
  cases r with
  | str z => exact rfl
  | _ => exact absurd (show false = true from k) Bool.false_ne_true
def strsOf : List D → Option (List Str)
  | [] => some []
  | .str x :: r => (strsOf r).map (x :: ·)
  | _ => none
theorem strsOf_rep {L : Ly} {H : Hp} : ∀ {ds : List D} {ys : List Str} {vs : List V}, strsOf ds = some ys → RepL w L H vs ds → vs = ys.map V.str
  | [], ys, vs, e, r => by
    cases e
    cases r
    rfl
  | .str x :: ds, ys, vs, e, r => by
    obtain ⟨zs, e1, rfl⟩ := Option.map_eq_some_iff.mp e
    cases r with
    | cons h t =>
      cases h
      rw [strsOf_rep e1 t]
      rfl
  | .non :: _, _, _, e, _ | .bl _ :: _, _, _, e, _ | .int _ :: _, _, _, e, _ | .tup _ :: _, _, _, e, _ | .lst _ :: _, _, _, e, _ | .scr _ :: _, _, _, e, _ | .ref _ :: _, _, _, e, _ | .gl _ :: _, _, _, e, _ | .emp :: _, _, _, e, _ | .ty _ :: _, _, _, e, _ | .err _ _ :: _, _, _, e, _ => nomatch e
def joinOk (a : Str) (ys : List Str) : Bool := Nat.ble ((ys.map (·.length)).sum + ys.length * a.length) 1000000
def dJoin : D → List D → Store → Res D
  | .str a, [.lst ds], S => (match strsOf ds with
    | some ys => if joinOk a ys = true then .ok (.str (Txt.join a ys)) S else .no
    | none => .no)
  | _, _, _ => .no
theorem md_join : MtD w (fun x xs H Q => ∃ a p, ∃ ys : List Str, x = .str a ∧ xs = [.ref p] ∧ (SqL w.K H p (ys.map V.str) ∨ SqT w.K H p (ys.map V.str)) ∧ (ys.map (·.length)).sum + ys.length * a.length ≤ 16777216 ∧ Q (.str (Txt.join a ys)) H) dJoin := by
  intro W L H S x d vs ds Q st r rs p
  cases r with
  | str a =>
    match ds, p with
    | [.lst ds], p =>
      obtain ⟨v, rfl, rv⟩ := rep1 rs
      cases rv with
      | @lst b us _ h n rr =>
        replace p : Post w W L H (QV w Q) (match strsOf ds with
          | some ys => if joinOk a ys = true then .ok (.str (Txt.join a ys)) S else .no
          | none => .no) := p
        cases e1 : strsOf ds with
        | none => simp only [e1] at p; exact (show False from p).elim
        | some ys =>
          simp only [e1] at p
          by_cases hk : joinOk a ys = true
          · rw [if_pos hk] at p
            unfold joinOk at hk
            rw [Nat.ble_eq] at hk
            have q := strsOf_rep e1 rr
            subst q
            exact ⟨a, b, ys, rfl, rfl, .inl (.of h), by omega, p.here st _ (.str _)⟩
          · rw [if_neg hk] at p
            exact p.elim
    | [], p => exact (show False from p).elim
    | [.non], p | [.bl _], p | [.int _], p | [.str _], p | [.tup _], p | [.scr _], p | [.ref _], p | [.gl _], p | [.emp], p | [.ty _], p | [.err _ _], p => exact (show False from p).elim
    | _ :: _ :: _, p => exact (show False from by rename_i a b c; cases a <;> exact p).elim
  | _ => exact (show False from p).elim
end
end Ls
/-! LsW: texts joined, split, searched, cut; int(text); x in a text, None in a tuple. -/
namespace Ls
open PySem PySem.Spec PyProof.Rows L2
section
variable {X : Cx} {W : XW} {w : Wd} {a b e : Expr} {es : List Expr} {sa sb : SE} {fa : SA} {p pos : Pos}
theorem repL_strs {L : Ly} {H : Hp} : ∀ ys : List Str, RepL w L H (ys.map V.str) (ys.map D.str)
  | [] => .nil
  | y :: r => .cons (.str y) (repL_strs r)
theorem de_join {o : Expr} {so : SE} {apos cpos : Pos} (ho : DE X W o so) (ha : DA X W (e :: es) fa)
    (hbase : attributeBase o "join" X.env (eval o X.env) = eval o X.env := by rfl)
    (hfew : ((backTo cpos (starEach (e :: es) X.env)).all (fun x => !x.1) && (backToKw cpos (keywordEach [] X.env)).all (fun x => x.1.isSome)
      && decide ((e :: es).length + ([] : List Keyword).length + (if ([] : List Keyword).isEmpty then 0 else 1) < 30)) = true := by rfl)
    (hline : (apos.endLine == cpos.line) = true := by rfl) (hs : starEach (e :: es) X.env = (false, eval e X.env) :: starEach es X.env := by rfl) (hplain : (backTo cpos (starEach es X.env)).any (·.1) = false := by rfl) :
    DE X W (.Call (.Attribute o "join" apos) (e :: es) [] cpos) (eBM isSt dJoin so fa) :=
  de_bm PySem.F.plainAttrs_str PySem.F.slot_str_join PySem.F.type_str_join mt_join td_str md_join ho ha hbase hfew hline hs hplain
def dSplit : D → List D → Store → Res D
  | .str x, [.str y], S => if (Nat.ble 1 y.length && small (x.length + 2)) = true then .ok (.lst ((Txt.split x y).map D.str)) S else .no
  | _, _, _ => .no
theorem md_split : MtD w (fun x xs H Q => ∃ a b, x = .str a ∧ xs = [.str b] ∧ (b.length == 0) = false ∧ a.length + 2 ≤ sizeLine ∧ rNewStrs (Txt.split a b) H Q) dSplit := by
  intro W L H S x d vs ds Q st r rs p
  cases r with
  | str a =>
    match ds, p with
    | [.str b], p =>
      obtain ⟨v, rfl, rv⟩ := rep1 rs
      cases rv
      replace p : Post w W L H (QV w Q) (if (Nat.ble 1 b.length && small (a.length + 2)) = true then .ok (.lst ((Txt.split a b).map D.str)) S else .no) := p
      by_cases hk : (Nat.ble 1 b.length && small (a.length + 2)) = true
      · rw [if_pos hk] at p
        have hk2 := Bool.and_eq_true_iff.mp hk
        have h1 := hk2.1
        rw [Nat.ble_eq] at h1
        refine ⟨a, b, rfl, rfl, by simp; omega, small_le hk2.2, fun q hq => ?_⟩
        exact p.there (st.ex hq) (st.new hq) _ (.lst upd_same (st.no hq) (repL_strs _))
      · rw [if_neg hk] at p
        exact p.elim
    | [], p => exact (show False from p).elim
    | [.non], p | [.bl _], p | [.int _], p | [.lst _], p | [.tup _], p | [.scr _], p | [.ref _], p | [.gl _], p | [.emp], p | [.ty _], p | [.err _ _], p => exact (show False from p).elim
    | _ :: _ :: _, p => exact (show False from by rename_i a b c; cases a <;> exact p).elim
  | _ => exact (show False from p).elim
theorem de_split {o : Expr} {so : SE} {apos cpos : Pos} (ho : DE X W o so) (ha : DA X W (e :: es) fa)
    (hbase : attributeBase o "split" X.env (eval o X.env) = eval o X.env := by rfl)
    (hfew : ((backTo cpos (starEach (e :: es) X.env)).all (fun x => !x.1) && (backToKw cpos (keywordEach [] X.env)).all (fun x => x.1.isSome)
      && decide ((e :: es).length + ([] : List Keyword).length + (if ([] : List Keyword).isEmpty then 0 else 1) < 30)) = true := by rfl)
    (hline : (apos.endLine == cpos.line) = true := by rfl) (hs : starEach (e :: es) X.env = (false, eval e X.env) :: starEach es X.env := by rfl) (hplain : (backTo cpos (starEach es X.env)).any (·.1) = false := by rfl) :
    DE X W (.Call (.Attribute o "split" apos) (e :: es) [] cpos) (eBM isSt dSplit so fa) :=
  de_bm PySem.F.plainAttrs_str PySem.F.slot_str_split PySem.F.type_str_split mt_split td_str md_split ho ha hbase hfew hline hs hplain
/-! ### x.index(y) of texts, y found -/
def rIndexS : V → List V → Hp → VK → Prop := fun x xs H Q => ∃ (a b : Str) (k : Nat), x = .str a ∧ xs = [.str b] ∧ Txt.index0 a b = some k ∧ Q (.int (k : Nat)) H
theorem mt_indexS : MtR X "str.index" rIndexS := by
  intro pins s σ H x xs v us Q I rx rs h
  obtain ⟨a, b, k, rfl, rfl, hk, w⟩ := h
  obtain ⟨t, rfl⟩ := rx
  cases rs with
  | cons r1 rs =>
    cases rs
    obtain ⟨u, rfl⟩ := r1
    cases q : Builtin.Str.occurrences a b 0 a.length 1 with
    | nil =>
      unfold Txt.index0 at hk
      rw [q] at hk
      cases hk
    | cons j rest =>
      unfold Txt.index0 at hk
      rw [q] at hk
      cases hk
      exact PySem.SC.index q ⟨.int (k : Nat), H, I.tok _, ⟨_, rfl⟩, w⟩
def dIndexS : D → List D → Store → Res D
  | .str x, [.str y], S => (match Txt.index0 x y with
    | some k => .ok (.int (k : Nat)) S
    | none => .no)
  | _, _, _ => .no
theorem md_indexS : MtD w rIndexS dIndexS := by
  intro W L H S x d vs ds Q st r rs p
  cases r with
  | str a =>
    match ds, p with
    | [.str b], p =>
      obtain ⟨v, rfl, rv⟩ := rep1 rs
      cases rv
      replace p : Post w W L H (QV w Q) (match Txt.index0 a b with
        | some k => .ok (.int (k : Nat)) S
        | none => .no) := p
      cases hk : Txt.index0 a b with
      | none => simp only [hk] at p; exact (show False from p).elim
      | some k =>
        simp only [hk] at p
        exact ⟨a, b, k, rfl, rfl, hk, p.here st _ (.int _)⟩
    | [], p => exact (show False from p).elim
    | [.non], p | [.bl _], p | [.int _], p | [.lst _], p | [.tup _], p | [.scr _], p | [.ref _], p | [.gl _], p | [.emp], p | [.ty _], p | [.err _ _], p => exact (show False from p).elim
    | _ :: _ :: _, p => exact (show False from by rename_i a b c; cases a <;> exact p).elim
  | _ => exact (show False from p).elim
theorem de_indexS {o : Expr} {so : SE} {apos cpos : Pos} (ho : DE X W o so) (ha : DA X W (e :: es) fa)
    (hbase : attributeBase o "index" X.env (eval o X.env) = eval o X.env := by rfl)
    (hfew : ((backTo cpos (starEach (e :: es) X.env)).all (fun x => !x.1) && (backToKw cpos (keywordEach [] X.env)).all (fun x => x.1.isSome)
      && decide ((e :: es).length + ([] : List Keyword).length + (if ([] : List Keyword).isEmpty then 0 else 1) < 30)) = true := by rfl)
    (hline : (apos.endLine == cpos.line) = true := by rfl) (hs : starEach (e :: es) X.env = (false, eval e X.env) :: starEach es X.env := by rfl) (hplain : (backTo cpos (starEach es X.env)).any (·.1) = false := by rfl) :
    DE X W (.Call (.Attribute o "index" apos) (e :: es) [] cpos) (eBM isSt dIndexS so fa) :=
  de_bm PySem.F.plainAttrs_str PySem.F.slot_str_index PySem.F.type_str_index mt_indexS td_str md_indexS ho ha hbase hfew hline hs hplain
/-! ### in -/
def rInT (K : PySem.W.Frag) : R2 := fun x y H Q => ∃ d ds, Dp K H x d ∧ Dp K H y (.tuple ds) ∧ SeqAt.shaped d = true ∧ SeqAt.shaped (.tuple ds) = true ∧ Q (.bl (ds.any fun z => PyData.eqv z d)) H
theorem op_inT (hu : X.A.units + 65 < cLine) : OpR X (compareOp .In) (rInT X.K) := by
  intro pins s σ H x y v u Q I rx ry h
  obtain ⟨d, ds, hd, he, sd, se, q⟩ := h
  obtain ⟨as, r1⟩ := Dp.reads I d x v hd rx
  obtain ⟨bs, r2⟩ := Dp.reads I (.tuple ds) y u he ry
  exact SeqAt.in_tuple_reads r2 r1 (SeqAt.canLay_of_shaped se) (SeqAt.canLay_of_shaped sd) (room_in_shaped sd hu) ⟨.bl _, H, I, rfl, q⟩
abbrev rInX (K : PySem.W.Frag) : R2 := fun x y H Q => rIn K false x y H Q ∨ ((∃ (c : Nat) (z : Str), x = .str ⟨#[c]⟩ ∧ y = .str z ∧ Q (.bl (decide (c ∈ z.cps.toList))) H) ∨ rInT K x y H Q)
def dInX : D → D → Store → Res D
  | .str x, .str z, S => (match x.cps.toList with
    | [c] => .ok (.bl (decide (c ∈ z.cps.toList))) S
    | _ => .no)
  | .non, d, S => (match pdS S d with
    | some (.tuple ds) => if SeqAt.shaped (.tuple ds) = true then .ok (.bl (ds.any fun z => PyData.eqv z .none)) S else .no
    | _ => .no)
  | d, e, S => dIn d e S
theorem str_one {x : Str} {c : Nat} (h : x.cps.toList = [c]) : x = ⟨#[c]⟩ := by
  obtain ⟨⟨l⟩⟩ := x
  simp only at h
  subst h
  rfl
theorem od_inX : OpD w (rInX w.K) dInX := by
  intro W L H S x y d e Q st rx ry p
  cases rx with
  | str x =>
    cases ry with
    | str z =>
      right; left
      replace p : Post w W L H (QV w Q) (match x.cps.toList with
        | [c] => .ok (.bl (decide (c ∈ z.cps.toList))) S
        | _ => .no) := p
      match hx : x.cps.toList with
      | [c] =>
        simp only [hx] at p
        exact ⟨c, z, by rw [str_one hx], rfl, p.here st _ (.bl _)⟩
      | [] => simp only [hx] at p; exact (show False from p).elim
      | _ :: _ :: _ => simp only [hx] at p; exact (show False from p).elim
    | _ => exact (show False from p).elim
  | non =>
    right; right
    replace p : Post w W L H (QV w Q) (match pdS S e with
      | some (.tuple ds) => if SeqAt.shaped (.tuple ds) = true then .ok (.bl (ds.any fun z => PyData.eqv z .none)) S else .no
      | _ => .no) := p
    cases e1 : pdS S e with
    | none => simp only [e1] at p; exact (show False from p).elim
    | some u =>
      cases u with
      | tuple us =>
        simp only [e1] at p
        by_cases hk : SeqAt.shaped (.tuple us) = true
        · rw [if_pos hk] at p
          exact ⟨.none, us, pdS_dp st (.non : Rep w L H .non .non) rfl, pdS_dp st ry e1, by decide +kernel, hk, p.here st _ (.bl _)⟩
        · rw [if_neg hk] at p
          exact p.elim
      | _ => simp only [e1] at p; exact (show False from p).elim
  | int i => exact .inl (od_in false W L H S _ y _ e Q st (.int i) ry p)
  | _ => exact (show False from by cases e <;> exact p).elim
theorem de_inx (hu : X.A.units + 65 < cLine) (ha : DE X W a sa) (hb : DE X W b sb) (hm : behindInMarks .In b = false := by rfl) : DE X W (.Compare a [.In] [b] pos) (eOp dInX sa sb) := de_cmp (op_in_seq.or (op_in_sign.or (op_inT hu))) od_inX ha hb hm
theorem dt_inx (hu : X.A.units + 65 < cLine) (ha : DE X W a sa) (hb : DE X W b sb) (hm : behindInMarks .In b = false := by rfl) : DT X W (.Compare a [.In] [b] pos) (tOfE (eOp dInX sa sb)) := dt_cmp (op_in_seq.or (op_in_sign.or (op_inT hu))) od_inX ha hb hm
/-! ### x[i:j] -/
def dSliceX : D → Option Int → Option Int → Store → Res D
  | .str z, lo, hi, S => if small z.length = true then .ok (.str (cutS z lo hi)) S else .no
  | d, lo, hi, S => dSlice d lo hi S
theorem sd_sliceX : SlD w (fun x lo hi H Q => (rSlA w.K x lo hi H Q ∨ rSlL w.K x lo hi H Q) ∨ rSlS x lo hi H Q) dSliceX := by
  intro W L H S x d lo hi Q st r p
  by_cases hs : ∃ z, d = .str z
  · obtain ⟨z, rfl⟩ := hs
    cases r
    replace p : Post w W L H (QV w Q) (if small z.length = true then .ok (.str (cutS z lo hi)) S else .no) := p
    by_cases hk : small z.length = true
    · rw [if_pos hk] at p
      exact .inr ⟨z, rfl, small_le hk, p.here st _ (.str _)⟩
    · rw [if_neg hk] at p
      exact p.elim
  · have e : dSliceX d lo hi S = dSlice d lo hi S := by cases d <;> first | rfl | exact absurd ⟨_, rfl⟩ hs
    rw [e] at p
    exact .inl (sd_slice W L H S x d lo hi Q st r p)
theorem de_slcX {lo hi : Option Expr} {fl fh : SO} {p2 : Pos} (ha : DE X W a sa) (hl : DO X W lo fl) (hh : DO X W hi fh) : DE X W (.Subscript a (.Slice lo hi none p2) pos) (eSl dSliceX sa fl fh) := de_slice ((sl_tupA.or sl_list).or sl_str) sd_sliceX ha hl hh
/-! ### int(text) -/
def dInt1X : List D → Store → Res D
  | [.str x], S => (match PySem.intText? x with
    | some n => if Nat.ble x.length 640 = true then .ok (.int n) S else .no
    | none => .no)
  | ds, S => dInt1 ds S
theorem cd_int1X : CallD w (fun xs H Q => ((∃ i, xs = [.int i] ∧ Q (.int i) H) ∨ ∃ k, xs = [.bl k] ∧ Q (.int (if k then 1 else 0)) H) ∨ (∃ a n, xs = [.str a] ∧ PySem.intText? a = some n ∧ a.length ≤ 640 ∧ Q (.int n) H)) dInt1X := by
  intro W L H S vs ds Q st r p
  by_cases hs : ∃ z, ds = [.str z]
  · obtain ⟨z, rfl⟩ := hs
    obtain ⟨v, rfl, rv⟩ := rep1 r
    cases rv
    replace p : Post w W L H (QV w Q) (match PySem.intText? z with
      | some n => if Nat.ble z.length 640 = true then .ok (.int n) S else .no
      | none => .no) := p
    cases e1 : PySem.intText? z with
    | none => simp only [e1] at p; exact (show False from p).elim
    | some n =>
      simp only [e1] at p
      by_cases hk : Nat.ble z.length 640 = true
      · rw [if_pos hk] at p
        exact .inr ⟨z, n, rfl, e1, Nat.ble_eq ▸ hk, p.here st _ (.int _)⟩
      · rw [if_neg hk] at p
        exact p.elim
  · have e : dInt1X ds S = dInt1 ds S := by
      match ds, hs with
      | [], _ => rfl
      | [d], hs => cases d <;> first | rfl | exact absurd ⟨_, rfl⟩ hs
      | d :: _ :: _, _ => cases d <;> rfl
    rw [e] at p
    exact .inl (cd_int1 W L H S vs ds Q st r p)
theorem de_int1X (hm : X.mg "int" = none) (ha : DA X W (e :: es) fa) (hg : Gl X "int" := by rfl) (he : starEach (e :: es) X.env = (false, eval e X.env) :: starEach es X.env := by rfl) (hpl : (backTo pos (starEach es X.env)).any (·.1) = false := by rfl) :
    DE X W (.Call (.Name "int" p) (e :: es) [] pos) (eCB dInt1X fa) := de_callTy (call_int1.or call_int_str) cd_int1X hm (by decide +kernel) ha hg (by decide) (by decide) he hpl
end
end Ls
/-! LsX: dicts in cells: made, asked, written, walked while locked. -/
namespace Ls
open PySem PySem.Spec PyProof.Rows L2
theorem RmQ.units1 {b : Bool} {k : Nat} {A : Around} (r : RmQ b k A) : A.units + 1 < cLine := by have := r.units; omega
def keyD : Key → D
  | .inl i => .int i
  | .inr x => .str x
def asKey : D → Option Key
  | .int i => some (.inl i)
  | .str x => some (.inr x)
  | _ => none
theorem key_rep {w : Wd} {L : Ly} {H : Hp} (k : Key) : Rep w L H (kV k) (keyD k) := by
  cases k with
  | inl i => exact .int i
  | inr x => exact .str x
theorem asKey_v {w : Wd} {L : Ly} {H : Hp} {v : V} {d : D} {k : Key} (r : Rep w L H v d) (e : asKey d = some k) : v = kV k := by
  cases r <;> cases e <;> rfl
section
variable {κ : Type} [DecidableEq κ]
def valD (kvs : List (κ × D)) (k : κ) : Option D := (kvs.find? fun kv => decide (kv.1 = k)).map (·.2)
def putKD (kvs : List (κ × D)) (k : κ) (v : D) : List (κ × D) :=
  if (kvs.any fun kv => decide (kv.1 = k)) = true then kvs.map (fun kv => if kv.1 = k then (kv.1, v) else kv) else kvs ++ [(k, v)]
variable {w : Wd} {L : Ly} {H : Hp}
theorem val_rep : ∀ {kvs : List (κ × D)} {vs : List V}, RepL w L H vs (kvs.map (·.2)) → ∀ k, (∀ d, valD kvs k = some d → ∃ v, valV ((kvs.map (·.1)).zip vs) k = some v ∧ Rep w L H v d) ∧ (valD kvs k = none → valV ((kvs.map (·.1)).zip vs) k = none)
  | [], _, _, k => ⟨(fun d h => nomatch h), fun _ => rfl⟩
  | (j, e) :: r, vs, h, k => by
    cases h with
    | @cons v us _ _ h t =>
      obtain ⟨i1, i2⟩ := val_rep (kvs := r) (vs := us) t k
      by_cases hj : j = k
      · refine ⟨fun d hd => ?_, fun hd => ?_⟩
        · simp only [valD, List.find?_cons, decide_eq_true hj, Option.map_some, Option.some.injEq] at hd
          subst hd
          exact ⟨v, by simp [valV, List.find?_cons, hj], h⟩
        · simp [valD, List.find?_cons, hj] at hd
      · have e1 : valD ((j, e) :: r) k = valD r k := by simp [valD, List.find?_cons, hj]
        have e2 : valV ((((j, e) :: r).map (·.1)).zip (v :: us)) k = valV ((r.map (·.1)).zip us) k := by simp [valV, List.find?_cons, hj]
        rw [e1, e2]
        exact ⟨i1, i2⟩
theorem any_rep : ∀ {kvs : List (κ × D)} {vs : List V}, RepL w L H vs (kvs.map (·.2)) → ∀ k, (((kvs.map (·.1)).zip vs).any fun kv => decide (kv.1 = k)) = kvs.any fun kv => decide (kv.1 = k)
  | [], _, _, k => rfl
  | (j, e) :: r, vs, h, k => by
    cases h with
    | @cons v us _ _ h t =>
      have := any_rep (kvs := r) (vs := us) t k
      simp only [List.map_cons, List.zip_cons_cons, List.any_cons, this]
theorem repl_rep {v : V} {d : D} (rv : Rep w L H v d) (k : κ) : ∀ {kvs : List (κ × D)} {vs : List V}, RepL w L H vs (kvs.map (·.2)) → ∃ vs', ((kvs.map (·.1)).zip vs).map (fun kv => if kv.1 = k then (kv.1, v) else kv) = ((kvs.map fun kv => if kv.1 = k then (kv.1, d) else kv).map (·.1)).zip vs' ∧ RepL w L H vs' ((kvs.map fun kv => if kv.1 = k then (kv.1, d) else kv).map (·.2))
  | [], vs, h => by
    cases h
    exact ⟨[], rfl, .nil⟩
  | (j, e) :: r, vs, h => by
    cases h with
    | @cons u us _ _ h t =>
      obtain ⟨vs', e1, e2⟩ := repl_rep rv k (kvs := r) (vs := us) t
      by_cases hj : j = k
      · refine ⟨v :: vs', ?_, ?_⟩
        · simp only [List.map_cons, List.zip_cons_cons, if_pos hj, e1]
        · simp only [List.map_cons, if_pos hj]
          exact .cons rv e2
      · refine ⟨u :: vs', ?_, ?_⟩
        · simp only [List.map_cons, List.zip_cons_cons, if_neg hj, e1]
        · simp only [List.map_cons, if_neg hj]
          exact .cons h e2
theorem put_rep {kvs : List (κ × D)} {vs : List V} {v : V} {d : D} (h : RepL w L H vs (kvs.map (·.2))) (rv : Rep w L H v d) (k : κ) : ∃ vs', putK ((kvs.map (·.1)).zip vs) k v = ((putKD kvs k d).map (·.1)).zip vs' ∧ RepL w L H vs' ((putKD kvs k d).map (·.2)) := by
  unfold putK putKD
  rw [any_rep h k]
  by_cases hk : (kvs.any fun kv => decide (kv.1 = k)) = true
  · rw [if_pos hk, if_pos hk]
    exact repl_rep rv k h
  · rw [if_neg hk, if_neg hk]
    refine ⟨vs ++ [v], ?_, ?_⟩
    · have hl : (kvs.map (·.1)).length = vs.length := by rw [h.len]; simp
      rw [List.map_append, List.zip_append hl]
      rfl
    · rw [List.map_append]
      exact h.app (.cons rv .nil)
end
theorem zip_len {w : Wd} {L : Ly} {H : Hp} {κ : Type} {kvs : List (κ × D)} {vs : List V} (h : RepL w L H vs (kvs.map (·.2))) : ((kvs.map (·.1)).zip vs).length = kvs.length := by
  have := h.len
  simp at this
  simp [this]
/-- what a dict's cell holds, locked or not -/
def dicOf (S : Store) (n : Nat) : Option (List (Key × D)) := match S[n]? with
  | some (.dic kvs) => some kvs
  | some (.dil kvs) => some kvs
  | _ => none
section
variable {X : Cx} {W : XW} {w : Wd} {a b : Expr} {sa sb : SE} {pos : Pos}
theorem dicOf_ok {L : Ly} {H : Hp} {S : Store} {n : Nat} {kvs : List (Key × D)} {a : Addr} (e : dicOf S n = some kvs) (s : Sto w L H S) (h : L.c[n]? = some a) : ∃ vs, Rd H a (.dK ((kvs.map (·.1)).zip vs)) ∧ RepL w L H vs (kvs.map (·.2)) := by
  unfold dicOf at e
  cases e1 : S[n]? with
  | none => rw [e1] at e; cases e
  | some o =>
    rw [e1] at e
    cases o with
    | dic ks =>
      cases e
      obtain ⟨vs, hv, r⟩ := s.ob n _ a e1 h
      exact ⟨vs, .inl hv, r⟩
    | dil ks =>
      cases e
      obtain ⟨vs, ⟨o, hv⟩, r⟩ := s.ob n _ a e1 h
      exact ⟨vs, .inr ⟨o, hv⟩, r⟩
    | _ => cases e
/-! ### d[k], k in d -/
def rDG : R2 := fun x y H Q => ∃ a v, x = .ref a ∧ DGet H a y (some v) ∧ Q v H
def dGetK : D → D → Store → Res D
  | .dref n, k, S => match dicOf S n, asKey k with
    | some kvs, some k => (match valD kvs k with
      | some v => .ok v S
      | none => .no)
    | _, _ => .no
  | _, _, _ => .no
theorem od_getK : OpD w rDG dGetK := by
  intro W L H S x y a b Q st rx ry p
  cases rx with
  | @dref a n h k =>
    replace p : Post w W L H (QV w Q) (match dicOf S n, asKey b with
      | some kvs, some k => (match valD kvs k with
        | some v => .ok v S
        | none => .no)
      | _, _ => .no) := p
    cases e1 : dicOf S n with
    | none => simp only [e1] at p; exact (show False from p).elim
    | some kvs =>
      cases e2 : asKey b with
      | none => simp only [e1, e2] at p; exact (show False from p).elim
      | some k =>
        simp only [e1, e2] at p
        cases e3 : valD kvs k with
        | none => simp only [e3] at p; exact (show False from p).elim
        | some d =>
          simp only [e3] at p
          obtain ⟨vs, hv, r⟩ := dicOf_ok e1 st h
          obtain ⟨v, ev, rv⟩ := (val_rep r k).1 d e3
          refine ⟨a, v, rfl, .inl ⟨_, k, hv, asKey_v ry e2, ev.symm⟩, p.here st _ rv⟩
  | _ => exact (show False from p).elim
theorem de_getK (hu : X.A.units + 1 < cLine) (ha : DE X W a sa) (hb : DE X W b sb) (hs : NoSl b := by intro _ _; rfl) : DE X W (.Subscript a b pos) (eOp dGetK sa sb) := by
  obtain ⟨ta, pa, ra⟩ := ha
  obtain ⟨tb, pb, rb⟩ := hb
  exact ⟨_, pe_dget hu pa pb hs, re_op (r := rDG) od_getK ra rb⟩
def rDI (neg : Bool) : R2 := fun y x H Q => ∃ a o, x = .ref a ∧ DGet H a y o ∧ Q (.bl (if neg = true then !o.isSome else o.isSome)) H
def inK (neg : Bool) : D → D → Store → Res D
  | k, .dref n, S => match dicOf S n, asKey k with
    | some kvs, some k => .ok (.bl (if neg = true then !(valD kvs k).isSome else (valD kvs k).isSome)) S
    | _, _ => .no
  | _, _, _ => .no
theorem od_inK (neg : Bool) : OpD w (rDI neg) (inK neg) := by
  intro W L H S y x b a Q st ry rx p
  cases rx with
  | @dref a n h k =>
    replace p : Post w W L H (QV w Q) (match dicOf S n, asKey b with
      | some kvs, some k => .ok (.bl (if neg = true then !(valD kvs k).isSome else (valD kvs k).isSome)) S
      | _, _ => .no) := p
    cases e1 : dicOf S n with
    | none => simp only [e1] at p; exact (show False from p).elim
    | some kvs =>
      cases e2 : asKey b with
      | none => simp only [e1, e2] at p; exact (show False from p).elim
      | some k =>
        simp only [e1, e2] at p
        obtain ⟨vs, hv, r⟩ := dicOf_ok e1 st h
        obtain ⟨q1, q2⟩ := val_rep r k
        refine ⟨a, valV ((kvs.map (·.1)).zip vs) k, rfl, .inl ⟨_, k, hv, asKey_v ry e2, rfl⟩, ?_⟩
        have es : (valV ((kvs.map (·.1)).zip vs) k).isSome = (valD kvs k).isSome := by
          cases e3 : valD kvs k with
          | none => rw [q2 e3]; rfl
          | some d => obtain ⟨v, ev, _⟩ := q1 d e3; rw [ev]; rfl
        rw [es]
        exact p.here st _ (.bl _)
  | _ => exact (show False from by cases b <;> exact p).elim
abbrev dInK := inK false
abbrev dNinK := inK true
theorem de_inK (hu : X.A.units + 1 < cLine) (ha : DE X W a sa) (hb : DE X W b sb) (h1 : behindInMarks .In b = false := by rfl) : DE X W (.Compare a [.In] [b] pos) (eOp dInK sa sb) := by
  obtain ⟨ta, pa, ra⟩ := ha
  obtain ⟨tb, pb, rb⟩ := hb
  exact ⟨_, pe_cmp (pc_din hu pa pb) h1, re_op (r := rDI false) (od_inK false) ra rb⟩
theorem de_ninK (hu : X.A.units + 1 < cLine) (ha : DE X W a sa) (hb : DE X W b sb) (h1 : behindInMarks .NotIn b = false := by rfl) : DE X W (.Compare a [.NotIn] [b] pos) (eOp dNinK sa sb) := by
  obtain ⟨ta, pa, ra⟩ := ha
  obtain ⟨tb, pb, rb⟩ := hb
  exact ⟨_, pe_cmp (pc_dnotin hu pa pb) h1, re_op (r := rDI true) (od_inK true) ra rb⟩
theorem dt_inK (hu : X.A.units + 1 < cLine) (ha : DE X W a sa) (hb : DE X W b sb) (h1 : behindInMarks .In b = false := by rfl) : DT X W (.Compare a [.In] [b] pos) (tOfE (eOp dInK sa sb)) := by
  obtain ⟨ta, pa, ra⟩ := ha
  obtain ⟨tb, pb, rb⟩ := hb
  exact ⟨_, pt_cmp (pc_din hu pa pb) h1, rt_of (re_op (r := rDI false) (od_inK false) ra rb)⟩
theorem dt_ninK (hu : X.A.units + 1 < cLine) (ha : DE X W a sa) (hb : DE X W b sb) (h1 : behindInMarks .NotIn b = false := by rfl) : DT X W (.Compare a [.NotIn] [b] pos) (tOfE (eOp dNinK sa sb)) := by
  obtain ⟨ta, pa, ra⟩ := ha
  obtain ⟨tb, pb, rb⟩ := hb
  exact ⟨_, pt_cmp (pc_dnotin hu pa pb) h1, rt_of (re_op (r := rDI true) (od_inK true) ra rb)⟩
/-! ### {} -/
def eDicC : SE := fun _ S => .ok (.dref S.length) (S ++ [.dic []])
theorem last_get {L : Ly} {S : Store} {a : Addr} (hl : L.c.length = S.length) : (L.add a).c[S.length]? = some a := by
  show (L.c ++ [a])[S.length]? = some a
  rw [← hl, List.getElem?_append_right (Nat.le_refl _), Nat.sub_self]
  rfl
theorem de_dicC : DE X W (.Dict [] [] pos) eDicC := ⟨_, pe_dnewK, fun ρ σ L H S Q er st p q hq =>
  (show Post (wd X W) W L H (QV (wd X W) Q) (.ok (.dref S.length) (S ++ [.dic []])) from p) (L.add q) _ (Ex.newM hq (st.no hq)) (st.newO hq (vs := []) (show (upd H q (.dK [])) q = some (.dK []) from upd_same) .nil) _ (.dref (last_get st.len) (.dK upd_same))⟩
/-- {k: v} -/
def eDic1 (fk fv : SE) : SE := fun ρ S => (fk ρ (S ++ [.dic []])).bind fun k S1 => (fv ρ S1).bind fun v S2 => match S2[S.length]?, asKey k with
  | some (.dic []), some k => .ok (.dref S.length) (S2.set S.length (.dic [(k, v)]))
  | _, _ => .no
theorem de_dic1 (ha : DE X W a sa) (hb : DE X W b sb) : DE X W (.Dict [some a] [b] pos) (eDic1 sa sb) := by
  obtain ⟨ta, pa, ra⟩ := ha
  obtain ⟨tb, pb, rb⟩ := hb
  refine ⟨_, pe_disp (pps_cons pa pb pps_nil) rfl rfl (by simp) (by simp), fun ρ σ L H S Q er st p q hq => ?_⟩
  have ex0 : Ex L H (L.add q) (upd H q (.dK [])) := Ex.newM hq (st.no hq)
  have s0 : Sto (wd X W) (L.add q) (upd H q (.dK [])) (S ++ [.dic []]) := st.newO hq (vs := []) (show (upd H q (.dK [])) q = some (.dK []) from upd_same) .nil
  have h0 : (L.add q).c[S.length]? = some q := last_get st.len
  refine ra ρ σ (L.add q) _ (S ++ [.dic []]) _ (er.mono ex0) s0 ((p.mono ex0).step fun k S1 L1 H1 e1 s1 p1 x rx => rb ρ σ L1 H1 S1 _ ((er.mono ex0).mono e1) s1 (p1.step fun v S2 L2 H2 e2 s2 p2 y ry => ?_))
  show H2 q = some (.dK []) ∧ _
  cases eo : S2[S.length]? with
  | none => simp only [eo] at p2; exact (show False from p2).elim
  | some o =>
    cases o with
    | dic kvs =>
      cases kvs with
      | cons _ _ => simp only [eo] at p2; exact (show False from p2).elim
      | nil =>
        cases ek : asKey k with
        | none => simp only [eo, ek] at p2; exact (show False from p2).elim
        | some kk =>
          simp only [eo, ek] at p2
          have hq2 : L2.c[S.length]? = some q := e2.at (e1.at h0)
          obtain ⟨vs, hv, r⟩ := s2.ob S.length _ q eo hq2
          replace hv : H2 q = some (.dK []) := hv
          have hx : x = kV kk := asKey_v rx ek
          refine ⟨hv, [(kk, y)], by rw [hx]; rfl, by simp, ?_⟩
          have em : mergeK [] [(kk, y)] = [(kk, y)] := by simp [mergeK, putK]
          rw [em]
          refine p2.there (s2.wrO (o := .dK [(kk, y)]) hq2 hv rfl noF_dK) (s2.writeO hq2 hv (ho := .dK [(kk, y)]) (fun z => nomatch z) rfl (o := .dic [(kk, v)]) (vs := [y]) (show (upd H2 q (.dK [(kk, y)])) q = some (.dK [(kk, y)]) from upd_same) (.cons ry .nil)) _ (.dref hq2 (.dK upd_same))
    | _ => simp only [eo] at p2; exact (show False from p2).elim
/-! ### d.get(k, e) -/
def eGet2 (fd fk fe : SE) : SE := fun ρ S => (fd ρ S).bind fun d S1 => match d with
  | .dref n => (fk ρ S1).bind fun k S2 => (fe ρ S2).bind fun e S3 => (match dicOf S3 n, asKey k with
    | some kvs, some k => .ok ((valD kvs k).getD e) S3
    | _, _ => .no)
  | _ => .no
theorem rep_isD {L : Ly} {H : Hp} {n : Nat} {v : V} (r : Rep w L H v (.dref n)) : ∃ a, v = .ref a ∧ L.c[n]? = some a ∧ IsD H a := by
  cases r with
  | @dref a n h k =>
    exact ⟨a, rfl, h, k.is2⟩
theorem de_get2 {c : Expr} {sc : SE} {apos cpos : Pos} (hu : X.A.units + 1 < cLine) (ha : DE X W a sa) (hb : DE X W b sb) (hc : DE X W c sc) (m : M2 X a "get" apos b c cpos := by exact ⟨rfl, rfl, rfl, rfl⟩) : DE X W (.Call (.Attribute a "get" apos) [b, c] [] cpos) (eGet2 sa sb sc) := by
  obtain ⟨ta, pa, ra⟩ := ha
  obtain ⟨tb, pb, rb⟩ := hb
  obtain ⟨tc, pc, rc⟩ := hc
  refine ⟨_, pe_dget2 hu pa pb pc m, fun ρ σ L H S Q er st p => ra ρ σ L H S _ er st (p.step fun d S1 L1 H1 e1 s1 p1 x rx => ?_)⟩
  by_cases hd : ∃ n, d = .dref n
  · obtain ⟨n, rfl⟩ := hd
    obtain ⟨a, rfl, h, hi⟩ := rep_isD rx
    refine ⟨a, rfl, hi, rb ρ σ L1 H1 S1 _ (er.mono e1) s1 (p1.step fun k S2 L2 H2 e2 s2 p2 y ry => rc ρ σ L2 H2 S2 _ ((er.mono e1).mono e2) s2 (p2.step fun e S3 L3 H3 e3 s3 p3 z rz => ?_))⟩
    cases f1 : dicOf S3 n with
    | none => simp only [f1] at p3; exact (show False from p3).elim
    | some kvs =>
      cases f2 : asKey k with
      | none => simp only [f1, f2] at p3; exact (show False from p3).elim
      | some kk =>
        simp only [f1, f2] at p3
        obtain ⟨vs, hv, r⟩ := dicOf_ok f1 s3 (e3.at (e2.at h))
        obtain ⟨q1, q2⟩ := val_rep r kk
        refine ⟨_, .inl ⟨_, kk, hv, asKey_v ry f2, rfl⟩, ?_⟩
        cases f3 : valD kvs kk with
        | none =>
          rw [f3] at p3
          rw [q2 f3]
          exact p3.here s3 _ rz
        | some d =>
          rw [f3] at p3
          obtain ⟨v, ev, rv⟩ := q1 d f3
          rw [ev]
          exact p3.here s3 _ rv
  · exact (show False from by cases d <;> first | exact p1 | exact absurd ⟨_, rfl⟩ hd).elim
/-! ### d[k] = e -/
def sPutK (fo fi fe : SE) : SS := fun ρ S => (fe ρ S).bind fun d S1 => (fo ρ S1).bind fun o S2 => (fi ρ S2).bind fun k S3 => match o with
  | .dref n => (match S3[n]?, asKey k with
    | some (.dic kvs), some k => if small (kvs.length + 1) = true then .ok (.nx ρ) (S3.set n (.dic (putKD kvs k d))) else .no
    | _, _ => .no)
  | _ => .no
theorem ds_putK {e o i : Expr} {fo fi f : SE} {tpos : Pos} (hu : X.A.units + 1 < cLine) (ho : DE X W o fo) (hi : DE X W i fi) (he : DE X W e f) (hs : swapsWith e (some (.Subscript o i tpos)) pos.line X.env = pure false := by rfl) : DS X W (.Assign [.Subscript o i tpos] e pos) (sPutK fo fi f) := by
  obtain ⟨te, pe, re⟩ := he
  obtain ⟨to, po, ro⟩ := ho
  obtain ⟨ti, pi, ri⟩ := hi
  refine ⟨_, ps_dput hu po pi pe hs, fun ρ σ L H S D er st p => re ρ σ L H S _ er st (p.step fun d S1 L1 H1 e1 s1 p1 v rv => ro ρ σ L1 H1 S1 _ (er.mono e1) s1 (p1.step fun o S2 L2 H2 e2 s2 p2 u ru => ri ρ σ L2 H2 S2 _ ((er.mono e1).mono e2) s2 (p2.step fun k S3 L3 H3 e3 s3 p3 z rz => ?_)))⟩
  have ru' := ru.mono e3
  cases ru' with
  | @dref a n h kk =>
    replace p3 : Post (wd X W) W L3 H3 (QS (wd X W) D) (match S3[n]?, asKey k with
      | some (.dic kvs), some k => if small (kvs.length + 1) = true then .ok (.nx ρ) (S3.set n (.dic (putKD kvs k d))) else .no
      | _, _ => .no) := p3
    cases eo : S3[n]? with
    | none => simp only [eo] at p3; exact (show False from p3).elim
    | some ob =>
      cases ob with
      | dic kvs =>
        cases ek : asKey k with
        | none => simp only [eo, ek] at p3; exact (show False from p3).elim
        | some key =>
          simp only [eo, ek] at p3
          by_cases hz : small (kvs.length + 1) = true
          · rw [if_pos hz] at p3
            obtain ⟨vs, hv, r⟩ := s3.ob n _ a eo h
            replace hv : H3 a = some (.dK ((kvs.map (·.1)).zip vs)) := hv
            obtain ⟨vs', e4, r'⟩ := put_rep r ((rv.mono e2).mono e3) key
            refine ⟨a, _, rfl, .inl ⟨_, key, hv, asKey_v rz ek, by rw [zip_len r]; have := small_lt hz; omega, rfl⟩, ?_⟩
            have exx : Ex L3 H3 L3 (upd H3 a (.dK (putK ((kvs.map (·.1)).zip vs) key v))) := s3.wrO h hv rfl noF_dK
            exact p3.there exx (s3.writeO h hv (fun z => nomatch z) rfl (o := .dic (putKD kvs key d)) (vs := vs') (by show (upd H3 a _) a = some (.dK _); rw [upd_same, e4]) r') σ ((((er.mono e1).mono e2).mono e3).mono exx)
          · rw [if_neg hz] at p3
            exact p3.elim
      | _ => simp only [eo] at p3; exact (show False from p3).elim
  | _ => exact (show False from p3).elim
/-! ### for .. in d.items() -/
def itemsD (kvs : List (Key × D)) : List D := kvs.map fun kv => .tup [keyD kv.1, kv.2]
def walkedK (d : D) (S : Store) : Res Items := match d with
  | .dref n => (match S[n]? with
    | some (.dil kvs) => .ok (itemsD kvs, []) S
    | _ => .no)
  | _ => .no
def iItemsK (f : SE) : SI := fun ρ S => (f ρ S).bind walkedK
theorem di_items {e : Expr} {f : SE} {apos cpos : Pos} {elts : List Expr} {kk : Nat} {tpos : Pos} (he : DE X W e f) (hbase : attributeBase e "items" X.env (eval e X.env) = eval e X.env := by rfl) (hline : (apos.endLine == cpos.line) = true := by rfl) : DI X W (.Tuple elts kk tpos) (.Call (.Attribute e "items" apos) [] [] cpos) (iItemsK f) := by
  obtain ⟨t, p, r⟩ := he
  refine ⟨_, pi_items p hbase hline, fun ρ σ L H S R er st post => r ρ σ L H S _ er st (post.step fun d S1 L1 H1 e1 s1 p1 x rx => ?_)⟩
  cases rx with
  | @dref a n h k =>
    replace p1 : Post (wd X W) W L1 H1 (fun its _ L' H' => ∀ J, Wk (wd X W) L' H' J its → R J H') (match S1[n]? with
      | some (.dil kvs) => .ok (itemsD kvs, []) S1
      | _ => .no) := p1
    cases eo : S1[n]? with
    | none => simp only [eo] at p1; exact (show False from p1).elim
    | some ob =>
      cases ob with
      | dil kvs =>
        simp only [eo] at p1
        obtain ⟨vs, ⟨o, hv⟩, rr⟩ := s1.ob n _ a eo h
        refine ⟨a, o, _, rfl, hv, p1.here s1 _ ?_⟩
        intro i L' H' S' ey st' _
        have hv' := ey.knd.f a _ _ (List.mem_of_getElem? h) hv
        have rr' := rr.monoY ey
        have hl := rr'.len
        simp only [Ob.parts, List.length_map] at hl
        have zl : ((kvs.map (·.1)).zip vs).length = kvs.length := zip_len rr'
        refine ⟨fun d hd => ?_, fun hi => ⟨hv', by rw [zl, ← hi]; simp [itemsD]⟩⟩
        replace hd : (itemsD kvs)[i]? = some d := hd
        unfold itemsD at hd
        rw [List.getElem?_map] at hd
        obtain ⟨kv, hk, rfl⟩ := Option.map_eq_some_iff.mp hd
        have hi := (List.getElem?_eq_some_iff.mp hk).1
        refine ⟨⟨hv', by rw [zl]; exact hi⟩, fun x H2 y => ?_⟩
        obtain ⟨T, k', v', e2, rfl, hT, rfl⟩ := y
        rw [List.getElem?_zip_eq_some] at e2
        obtain ⟨e3, e4⟩ := e2
        rw [List.getElem?_map, hk] at e3
        cases e3
        obtain ⟨v2, e5, r5⟩ := rr'.get (i := i) (d := kv.2) (by simp [Ob.parts, hk])
        rw [e4] at e5
        cases e5
        exact pair_new st' hT (key_rep kv.1) r5
      | _ => simp only [eo] at p1; exact (show False from p1).elim
  | _ => exact (show False from p1).elim
/-- the statement runs while the dict that slot i holds is locked -/
def sLock (i : Nat) (f : SS) : SS := fun ρ S => match ρ[i]? with
  | some (some (.dref n)) => (match S[n]? with
    | some (.dic kvs) => (f ρ (S.set n (.dil kvs))).bind fun fl S2 => (match S2[n]? with
      | some (.dil kvs') => .ok fl (S2.set n (.dic kvs'))
      | _ => .no)
    | _ => .no)
  | _ => .no
theorem EnvR.monoZ {w : Wd} {L L' : Ly} {H H' : Hp} {ρ : Rho} {σ : L2.St} (e : Ez L H L' H') (r : EnvR w L H ρ σ) : EnvR w L' H' ρ σ :=
  ⟨r.1, fun i d h => let ⟨v, hv, q⟩ := r.2 i d h; ⟨v, hv, q.monoZ e⟩⟩
theorem ds_lock (i : Nat) {st : Stmt} {f : SS} (h : DS X W st f) : DS X W st (sLock i f) := by
  obtain ⟨t, p, r⟩ := h
  refine ⟨_, ps_lock p, fun ρ σ L H S D er st p => ?_⟩
  unfold sLock at p
  cases e0 : ρ[i]? with
  | none => simp only [e0] at p; exact (show False from p).elim
  | some o =>
    cases o with
    | none => simp only [e0] at p; exact (show False from p).elim
    | some d =>
      obtain ⟨v, hv, rv⟩ := er.2 i d e0
      cases rv with
      | @dref a n hn kk =>
        simp only [e0] at p
        cases eo : S[n]? with
        | none => simp only [eo] at p; exact (show False from p).elim
        | some ob =>
          cases ob with
          | dic kvs =>
            simp only [eo] at p
            obtain ⟨vs, hd, rr⟩ := st.ob n _ a eo hn
            replace hd : H a = some (.dK ((kvs.map (·.1)).zip vs)) := hd
            refine ⟨a, _, hd, True.intro, fun od => ?_⟩
            have ham : a ∈ L.c := List.mem_of_getElem? hn
            have ex0 : Ex L H L (upd H a (.frz od (.dK ((kvs.map (·.1)).zip vs)))) := st.wrO hn hd rfl noF_dK
            have st0 := st.writeO hn hd (fun z => nomatch z) (ho := .frz od (.dK ((kvs.map (·.1)).zip vs))) rfl (o := .dil kvs) (vs := vs) ⟨od, upd_same⟩ rr
            refine r ρ σ L _ (S.set n (.dil kvs)) _ (er.mono ex0) st0 ?_
            cases ef : f ρ (S.set n (.dil kvs)) with
            | no => rw [ef] at p; exact (show False from p).elim
            | exc x fs S2 =>
              rw [ef] at p
              exact (show Post (wd X W) W L H (QS (wd X W) D) (.exc x fs S2) from p).mono ex0
            | ok fl S2 =>
              rw [ef, bind_ok] at p
              intro L2 H2 ex st2
              cases eq : S2[n]? with
              | none => simp only [eq] at p; exact (show False from p).elim
              | some ob2 =>
                cases ob2 with
                | dil kvs' =>
                  simp only [eq] at p
                  have hn2 : L2.c[n]? = some a := ex.at hn
                  have hf := ex.knd.f a od _ ham upd_same
                  obtain ⟨vs2, ⟨o2, hd2⟩, rr2⟩ := st2.ob n _ a eq hn2
                  have he : HO.frz o2 (.dK ((kvs'.map (·.1)).zip vs2)) = .frz od (.dK ((kvs.map (·.1)).zip vs)) := by
                    rw [hd2] at hf
                    exact Option.some.inj hf
                  obtain ⟨_, he⟩ := HO.frz.inj he
                  have st3 := st2.writeO hn2 hf (fun z => nomatch z) (ho := .dK ((kvs.map (·.1)).zip vs)) rfl (o := .dic kvs') (vs := vs2) (by show (upd H2 a _) a = some (.dK _); rw [upd_same, he]) rr2
                  have ez : Ez L2 H2 L2 (upd H2 a (.dK ((kvs.map (·.1)).zip vs))) := ⟨⟨[], by simp⟩, fun b u h _ nb => ⟨by rw [upd_ne (show b ≠ a from fun e => nb (by rw [e]; exact .inl (List.mem_of_getElem? hn2)))]; exact h, nb⟩, .wr hf rfl⟩
                  have exx : Ex L H L2 (upd H2 a (.dK ((kvs.map (·.1)).zip vs))) := by
                    refine ⟨ex.pre, ex.prv, fun b u h t nb => ?_, fun b hb => ?_, ⟨fun b j hb hj k => ?_, fun b o' u' hb e => ?_⟩⟩
                    · have nba : b ≠ a := fun e => nb (by rw [e]; exact .inl ham)
                      obtain ⟨h1, h2⟩ := ex.keep b u (by rw [upd_ne nba]; exact h) t nb
                      exact ⟨by rw [upd_ne nba]; exact h1, h2⟩
                    · have nba : b ≠ a := fun e => st.ap a ham (by rw [← e]; exact hb)
                      rw [upd_ne nba, ex.still b hb, upd_ne nba]
                    · obtain ⟨N, eN⟩ := ex.pre
                      exact ez.knd b j (by rw [eN]; exact List.mem_append_left _ hb) hj (ex.knd.k b j hb hj (ex0.knd.k b j hb hj k))
                    · have nba : b ≠ a := fun z => by rw [z, hd] at e; cases e
                      rw [upd_ne nba]
                      exact ex.knd.f b o' u' hb (by rw [upd_ne nba]; exact e)
                  have q := p L2 _ exx st3
                  cases fl with
                  | nx ρ' => exact fun σ' er' => ⟨hf, q σ' (er'.monoZ ez)⟩
                  | rt d' => exact fun v' rv' => ⟨hf, q v' (rv'.monoZ ez)⟩
                  | bk ρ' => exact fun σ' er' => ⟨hf, q σ' (er'.monoZ ez)⟩
                  | ct ρ' => exact fun σ' er' => ⟨hf, q σ' (er'.monoZ ez)⟩
                | _ => simp only [eq] at p; exact (show False from p).elim
          | _ => simp only [eo] at p; exact (show False from p).elim
      | _ => simp only [e0] at p; exact (show False from p).elim
end
end Ls
/-! LsY: dict(pairs) with tuples as keys, asked. -/
namespace Ls
open PySem PySem.Spec PyProof.Rows L2
def asKeys : List D → Option (List Key)
  | [] => some []
  | d :: r => match asKey d, asKeys r with
    | some k, some ks => some (k :: ks)
    | _, _ => none
theorem asKeys_v {w : Wd} {L : Ly} {H : Hp} : ∀ {vs : List V} {ds : List D} {ks : List Key}, RepL w L H vs ds → asKeys ds = some ks → vs = ks.map kV
  | _, [], _, .nil, e => by cases e; rfl
  | _, d :: ds, ks, .cons h t, e => by
    unfold asKeys at e
    cases e1 : asKey d with
    | none => simp only [e1] at e; cases e
    | some k =>
      cases e2 : asKeys ds with
      | none => simp only [e1, e2] at e; cases e
      | some ks' =>
        simp only [e1, e2] at e
        cases e
        rw [asKey_v h e1, asKeys_v t e2]
        rfl
def mergeT (kvs : List (List Key × V)) : List (List Key × V) := kvs.foldl (fun acc kv => putK acc kv.1 kv.2) []
/-- a list of pairs, each a tuple of a tuple and a value -/
def PairsT (K : PySem.W.Frag) (H : Hp) (ps : List Addr) (qs : List (Addr × (List Key × V))) : Prop :=
  Paired (fun p q => SqT K H p [.ref q.1, q.2.2] ∧ H q.1 = some (.tup (q.2.1.map kV))) ps qs
def rDictT (K : PySem.W.Frag) : List V → Hp → VK → Prop := fun xs H Q => ∃ (a : Addr) (ps : List Addr) (qs : List (Addr × (List Key × V))), xs = [.ref a] ∧ SqL K H a (ps.map V.ref) ∧ PairsT K H ps qs ∧
    ∀ p, H p = none → Q (.ref p) (upd H p (.dT (mergeT (qs.map (·.2)))))
section
variable {X : Cx} {W : XW} {w : Wd} {a b e : Expr} {es : List Expr} {sa sb : SE} {fa : SA} {p pos : Pos}
theorem pairsT_of {pins : List (Addr × Obj)} {σ : L2.St} {H : Hp} {s : Shared} (I : Inv X pins σ H s) : ∀ {ps : List Addr} {qs : List (Addr × (List Key × V))}, PairsT X.K H ps qs →
    ∃ us : List Value, us.length = ps.length ∧ qs.length = ps.length ∧ ∀ (j : Nat) (u : Value), us[j]? = some u → ∃ (b : Addr) (q : Addr × (List Key × V)), ps[j]? = some b ∧ qs[j]? = some q ∧ IsTup s.heap b #[.ref q.1, u] ∧ RelV q.2.2 u ∧ H q.1 = some (.tup (q.2.1.map kV))
  | _, _, .nil => ⟨[], rfl, rfl, fun j q e => by simp at e⟩
  | _, _, .cons (a := p) (b := q) h t => by
    obtain ⟨us, hl, hl2, hp⟩ := pairsT_of I t
    obtain ⟨its, rv, ht, _⟩ := I.tuple h.1
    obtain ⟨u, y, ei, ru, ry⟩ := vals2 rv
    subst ei
    cases ru
    refine ⟨y :: us, by simp [hl], by simp [hl2], fun j u e => ?_⟩
    cases j with
    | zero =>
      have e' : y = u := Option.some.inj e
      subst e'
      exact ⟨p, q, rfl, rfl, ht, ry, h.2⟩
    | succ j =>
      obtain ⟨b, q', e1, e2, e3⟩ := hp j u (by simpa using e)
      exact ⟨b, q', by simpa using e1, by simpa using e2, e3⟩
theorem KT.all {H : Hp} : ∀ (qs : List (Addr × (List Key × V))) (us : List Value) (acc : List (List Key × V)) (xs : List (List Key × Addr × Value)), KT H acc xs → qs.length = us.length → (∀ (j : Nat) (q : Addr × (List Key × V)) (u : Value), qs[j]? = some q → us[j]? = some u → H q.1 = some (.tup (q.2.1.map kV)) ∧ RelV q.2.2 u) →
    KT H ((qs.map (·.2)).foldl (fun acc kv => putK acc kv.1 kv.2) acc) (storedAllH xs ((qs.zip us).map fun z => (z.1.2.1, z.1.1, z.2)))
  | [], us, acc, xs, r, _, _ => r
  | q :: qs, [], acc, xs, r, hl, _ => by simp at hl
  | q :: qs, u :: us, acc, xs, r, hl, h => by
    have h0 := h 0 q u rfl rfl
    exact KT.all qs us _ _ (KT.put r q.2.1 h0.1 h0.2) (by simpa using hl) fun j q' u' e1 e2 => h (j + 1) q' u' (by simpa using e1) (by simpa using e2)
theorem length_fold (l : List (List Key × V)) : ∀ acc : List (List Key × V), (l.foldl (fun acc kv => putK acc kv.1 kv.2) acc).length ≤ acc.length + l.length := by
  induction l with
  | nil => intro acc; simp
  | cons x r ih =>
    intro acc
    rw [List.foldl_cons]
    have := ih (putK acc x.1 x.2)
    have := length_putK acc x.1 x.2
    simp only [List.length_cons]
    omega
theorem call_dictT (hcalm : X.calm = true) (hu : X.A.units + 64 < cLine) : CallR X (.type "dict") (rDictT X.K) := by
  intro pins s σ H xs us Q I r q
  obtain ⟨a, ps, qs, ex, hq, hp, q⟩ := q
  subst ex
  obtain ⟨u, eu, rx⟩ := vals1 r
  subst eu
  cases rx
  obtain ⟨its, rv, pl, hz⟩ := I.list hq
  have ei := refs_at rv
  subst ei
  rw [List.length_map] at hz
  obtain ⟨us, hl, hl2, hpr⟩ := pairsT_of I hp
  obtain ⟨o, n, ho, hc, hd, hdat⟩ := pl
  have hlen : ((qs.zip us).map fun z => (Value.ref z.1.1, z.2)).length = ps.length := by simp [hl, hl2]
  have P := PairArg.list (prog := X.prog) (w := X.w) a (ps.map Value.ref).toArray (fun j => ps.getD j 0) ((qs.zip us).map fun z => (Value.ref z.1.1, z.2))
  have at1 : ∀ (j : Nat) (k v : Value), ((qs.zip us).map fun z => (Value.ref z.1.1, z.2))[j]? = some (k, v) → ∃ q, qs[j]? = some q ∧ us[j]? = some v ∧ k = .ref q.1 := fun j k v e => by
    rw [List.getElem?_map] at e
    obtain ⟨z, e1, e2⟩ := Option.map_eq_some_iff.mp e
    rw [List.getElem?_zip_eq_some] at e1
    cases e2
    exact ⟨z.1, e1.1, e1.2, rfl⟩
  refine call_dict_pairsH (knd := tupleKind (mixKind X.prog X.w)) (ps := (qs.zip us).map fun z => (z.1.2.1, z.1.1, z.2)) P (I.ok.hd hcalm) (show X.A.in1.in1.units < cLine by show X.A.units + 1 + 1 < cLine; omega) ⟨⟨o, n, ho, hc, hd, hdat⟩, by simp [hl, hl2], fun j k v e => ?_⟩ ⟨by simp, fun i key v e => ?_⟩ (fun h' hk x hx => ?_) (by rw [hlen]; exact hz) fun h' tk hd' k => ?_
  · obtain ⟨q1, e1, e2, rfl⟩ := at1 j k v e
    obtain ⟨b, q2, e3, e4, e5, e6, e7⟩ := hpr j v e2
    rw [e1] at e4
    cases e4
    have eg : ps.getD j 0 = b := by rw [List.getD_eq_getElem?_getD, e3]; rfl
    refine ⟨by show _ = some (Value.ref (ps.getD j 0)); rw [eg]; simp [e3], ?_⟩
    show PairAt s.heap (ps.getD j 0) _ _
    rw [eg]
    obtain ⟨o', h1, h2, n', h3⟩ := e5
    exact .inl ⟨o', h1, h2, n', h3⟩
  · obtain ⟨q1, e1, e2, rfl⟩ := at1 i key v e
    refine ⟨q1.2.1, q1.1, ?_, rfl⟩
    rw [List.getElem?_map, show (qs.zip us)[i]? = some (q1, v) from List.getElem?_zip_eq_some.mpr ⟨e1, e2⟩]
    rfl
  · obtain ⟨z, hz', rfl⟩ := List.mem_map.mp hx
    obtain ⟨j, hj⟩ := List.mem_iff_getElem?.mp hz'
    rw [List.getElem?_zip_eq_some] at hj
    obtain ⟨b, q2, e3, e4, e5, e6, e7⟩ := hpr j z.2 hj.2
    rw [hj.1] at e4
    cases e4
    obtain ⟨o', its', n', g1, g2, g3, g4⟩ := key_of I.hok e7
    exact ⟨o', its', n', hk _ _ (Nat.ne_of_lt (Heap.lt_size g1)) (fun z => nomatch z) g1, g2, g3, g4⟩
  · have hm : (s.heap.objs.size == sysModules) = false := beq_eq_false_iff_ne.mpr (Nat.ne_of_gt I.big)
    have hT : H s.heap.objs.size = none := I.hok.fresh (Nat.le_refl _)
    have kt := KT.all (H := H) qs us [] [] .nil (by rw [hl, hl2]) fun j q' u' e1 e2 => by
      obtain ⟨b, q2, e3, e4, e5, e6, e7⟩ := hpr j u' e2
      rw [e1] at e4
      cases e4
      exact ⟨e7, e6⟩
    have hlen2 : (mergeT (qs.map (·.2))).length ≤ sizeLine := by
      refine Nat.le_trans (length_fold _ []) ?_
      simp [hl2]
      exact hz
    refine ⟨.ref s.heap.objs.size, upd H s.heap.objs.size (.dT (mergeT (qs.map (·.2)))), I.laid (t' := tk) (fun b o e => k b o (fun z => nomatch z) e) (Nat.le_refl _) (show ObjOk X.prog X.w _ _ _ (.dT (mergeT (qs.map (·.2)))) from ?_), rfl, q _ hT⟩
    obtain ⟨o1, es, ep, h1, h2, h3, h4, h5, h6⟩ := hd'
    exact ⟨hlen2, hm, _, KT.keeps kt (fun b ys e => by rw [upd_ne (ne_of_none e hT)]; exact e), o1, es, ep, h1, h2, h3, h4, h6⟩
/-! ### the layer's own -/
def pairsD : List D → Option (List (List Key × D))
  | [] => some []
  | .tup [.xtup ks, v] :: r => match asKeys ks, pairsD r with
    | some k, some kvs => some ((k, v) :: kvs)
    | _, _ => none
  | _ => none
theorem pairsD_ok {L : Ly} {H : Hp} : ∀ {xs : List D} {vs : List V} {kvs : List (List Key × D)}, RepL w L H vs xs → pairsD xs = some kvs → ∃ (ps : List Addr) (qs : List (Addr × (List Key × V))), vs = ps.map V.ref ∧ PairsT w.K H ps qs ∧ qs.map (·.2.1) = kvs.map (·.1) ∧ RepL w L H (qs.map (·.2.2)) (kvs.map (·.2))
  | [], _, kvs, .nil, e => by
    cases e
    exact ⟨[], [], rfl, .nil, rfl, .nil⟩
  | d :: r, _, kvs, .cons h t, e => by
    match d, h, e with
    | .tup [.xtup ks, v], h, e =>
      unfold pairsD at e
      cases e1 : asKeys ks with
      | none => simp only [e1] at e; cases e
      | some k =>
        cases e2 : pairsD r with
        | none => simp only [e1, e2] at e; cases e
        | some kvs' =>
          simp only [e1, e2] at e
          cases e
          obtain ⟨ps, qs, rfl, h1, h2, h3⟩ := pairsD_ok t e2
          cases h with
          | @tup pa _ _ hp np rp =>
            cases rp with
            | cons ra rp =>
              cases rp with
              | cons rb rp =>
                cases rp
                cases ra with
                | @xtup qa _ _ hq nq rq =>
                  rename_i vb _
                  have ek := asKeys_v rq e1
                  subst ek
                  exact ⟨pa :: ps, (qa, (k, vb)) :: qs, rfl, .cons ⟨.inl hp, hq⟩ h1, by simp [h2], .cons rb h3⟩
def mergeD (kvs : List (List Key × D)) : List (List Key × D) := kvs.foldl (fun acc kv => putKD acc kv.1 kv.2) []
theorem merge_rep {L : Ly} {H : Hp} : ∀ (kvs acc : List (List Key × D)) (us vs : List V), RepL w L H us (kvs.map (·.2)) → RepL w L H vs (acc.map (·.2)) → ∃ vs', ((kvs.map (·.1)).zip us).foldl (fun acc kv => putK acc kv.1 kv.2) ((acc.map (·.1)).zip vs) = ((kvs.foldl (fun acc kv => putKD acc kv.1 kv.2) acc).map (·.1)).zip vs' ∧ RepL w L H vs' ((kvs.foldl (fun acc kv => putKD acc kv.1 kv.2) acc).map (·.2))
  | [], acc, us, vs, hu, hv => ⟨vs, rfl, hv⟩
  | kv :: kvs, acc, us, vs, hu, hv => by
    cases hu with
    | @cons u us _ _ h t =>
      obtain ⟨vs1, e1, r1⟩ := put_rep hv h kv.1
      obtain ⟨vs', e2, r2⟩ := merge_rep kvs (putKD acc kv.1 kv.2) us vs1 t r1
      refine ⟨vs', ?_, r2⟩
      rw [List.map_cons, List.zip_cons_cons, List.foldl_cons, e1]
      exact e2
def dDictT : List D → Store → Res D
  | [d], S => match listOf S d with
    | some xs => (match pairsD xs with
      | some kvs => .ok (.dref S.length) (S ++ [.dit (mergeD kvs)])
      | none => .no)
    | none => .no
  | _, _ => .no
theorem listOf_ok {L : Ly} {H : Hp} {S : Store} {d : D} {v : V} {xs : List D} (st : Sto w L H S) (r : Rep w L H v d) (e : listOf S d = some xs) : ∃ a vs, v = .ref a ∧ SqL w.K H a vs ∧ RepL w L H vs xs := by
  cases r with
  | @lst a vs ds h n r => cases e; exact ⟨a, vs, rfl, .of h, r⟩
  | @ref a n h k =>
    obtain ⟨vs, hv, q⟩ := cell_ok (show cell S n = some xs from e) st h
    exact ⟨a, vs, rfl, .of hv, q⟩
  | _ => exact nomatch e
theorem cd_dictT : CallD w (rDictT w.K) dDictT := by
  intro W L H S vs ds Q st r p
  match ds, p with
  | [d], p =>
    obtain ⟨v, rfl, rv⟩ := rep1 r
    replace p : Post w W L H (QV w Q) (match listOf S d with
      | some xs => (match pairsD xs with
        | some kvs => .ok (.dref S.length) (S ++ [.dit (mergeD kvs)])
        | none => .no)
      | none => .no) := p
    cases e1 : listOf S d with
    | none => simp only [e1] at p; exact (show False from p).elim
    | some xs =>
      simp only [e1] at p
      cases e2 : pairsD xs with
      | none => simp only [e2] at p; exact (show False from p).elim
      | some kvs =>
        simp only [e2] at p
        obtain ⟨a, us, rfl, hs, rs⟩ := listOf_ok st rv e1
        obtain ⟨ps, qs, rfl, h1, h2, h3⟩ := pairsD_ok rs e2
        refine ⟨a, ps, qs, rfl, hs, h1, fun q hq => ?_⟩
        obtain ⟨vs', e3, r3⟩ := merge_rep kvs [] _ [] h3 .nil
        have e4 : mergeT (qs.map (·.2)) = ((mergeD kvs).map (·.1)).zip vs' := by
          have : qs.map (·.2) = (kvs.map (·.1)).zip (qs.map (·.2.2)) := by
            rw [← h2]
            clear h1 h2 h3 e3
            induction qs with
            | nil => rfl
            | cons x r ih => simp [ih]
          unfold mergeT mergeD
          rw [this]
          exact e3
        rw [e4]
        exact p (L.add q) _ (Ex.newM hq (st.no hq)) (st.newO hq (o := .dit (mergeD kvs)) (vs := vs') (show (upd H q _) q = some (.dT _) from upd_same) r3) _ (.dref (last_get st.len) (.dT upd_same))
  | [], p => exact (show False from p).elim
  | _ :: _ :: _, p => exact (show False from p).elim
theorem de_dictT (hu : X.A.units + 64 < cLine) (hm : X.mg "dict" = none) (ha : DA X W (e :: es) fa) (hc : X.calm = true := by rfl) (hg : Gl X "dict" := by rfl) (he : starEach (e :: es) X.env = (false, eval e X.env) :: starEach es X.env := by rfl) (hpl : (backTo pos (starEach es X.env)).any (·.1) = false := by rfl) :
    DE X W (.Call (.Name "dict" p) (e :: es) [] pos) (eCB dDictT fa) := de_callTy (call_dictT hc hu) cd_dictT hm (by decide +kernel) ha hg (by decide) (by decide) he hpl
def inT (neg : Bool) : D → D → Store → Res D
  | .xtup ks, .dref n, S => match S[n]?, asKeys ks with
    | some (.dit kvs), some k => .ok (.bl (if neg = true then !(valD kvs k).isSome else (valD kvs k).isSome)) S
    | _, _ => .no
  | _, _, _ => .no
theorem od_inT (neg : Bool) : OpD w (rDI neg) (inT neg) := by
  intro W L H S y x b a Q st ry rx p
  cases ry with
  | @xtup qa vs ks hq nq rq =>
    cases rx with
    | @dref a n h k =>
      replace p : Post w W L H (QV w Q) (match S[n]?, asKeys ks with
        | some (.dit kvs), some k => .ok (.bl (if neg = true then !(valD kvs k).isSome else (valD kvs k).isSome)) S
        | _, _ => .no) := p
      cases e1 : S[n]? with
      | none => simp only [e1] at p; exact (show False from p).elim
      | some ob =>
        cases ob with
        | dit kvs =>
          cases e2 : asKeys ks with
          | none => simp only [e1, e2] at p; exact (show False from p).elim
          | some k =>
            simp only [e1, e2] at p
            obtain ⟨us, hv, r⟩ := st.ob n _ a e1 h
            replace hv : H a = some (.dT ((kvs.map (·.1)).zip us)) := hv
            obtain ⟨q1, q2⟩ := val_rep r k
            have ek := asKeys_v rq e2
            subst ek
            refine ⟨a, valV ((kvs.map (·.1)).zip us) k, rfl, .inr ⟨_, k, qa, .inl hv, rfl, hq, rfl⟩, ?_⟩
            have es : (valV ((kvs.map (·.1)).zip us) k).isSome = (valD kvs k).isSome := by
              cases e3 : valD kvs k with
              | none => rw [q2 e3]; rfl
              | some d => obtain ⟨v, ev, _⟩ := q1 d e3; rw [ev]; rfl
            rw [es]
            exact p.here st _ (.bl _)
        | _ => simp only [e1] at p; exact (show False from p).elim
    | _ => exact (show False from p).elim
  | _ => exact (show False from by cases a <;> exact p).elim
abbrev dInT := inT false
abbrev dNinT := inT true
theorem dt_inT (hu : X.A.units + 1 < cLine) (ha : DE X W a sa) (hb : DE X W b sb) (h1 : behindInMarks .In b = false := by rfl) : DT X W (.Compare a [.In] [b] pos) (tOfE (eOp dInT sa sb)) := by
  obtain ⟨ta, pa, ra⟩ := ha
  obtain ⟨tb, pb, rb⟩ := hb
  exact ⟨_, pt_cmp (pc_din hu pa pb) h1, rt_of (re_op (r := rDI false) (od_inT false) ra rb)⟩
theorem dt_ninT (hu : X.A.units + 1 < cLine) (ha : DE X W a sa) (hb : DE X W b sb) (h1 : behindInMarks .NotIn b = false := by rfl) : DT X W (.Compare a [.NotIn] [b] pos) (tOfE (eOp dNinT sa sb)) := by
  obtain ⟨ta, pa, ra⟩ := ha
  obtain ⟨tb, pb, rb⟩ := hb
  exact ⟨_, pt_cmp (pc_dnotin hu pa pb) h1, rt_of (re_op (r := rDI true) (od_inT true) ra rb)⟩
theorem de_inT (hu : X.A.units + 1 < cLine) (ha : DE X W a sa) (hb : DE X W b sb) (h1 : behindInMarks .In b = false := by rfl) : DE X W (.Compare a [.In] [b] pos) (eOp dInT sa sb) := by
  obtain ⟨ta, pa, ra⟩ := ha
  obtain ⟨tb, pb, rb⟩ := hb
  exact ⟨_, pe_cmp (pc_din hu pa pb) h1, re_op (r := rDI false) (od_inT false) ra rb⟩
theorem de_ninT (hu : X.A.units + 1 < cLine) (ha : DE X W a sa) (hb : DE X W b sb) (h1 : behindInMarks .NotIn b = false := by rfl) : DE X W (.Compare a [.NotIn] [b] pos) (eOp dNinT sa sb) := by
  obtain ⟨ta, pa, ra⟩ := ha
  obtain ⟨tb, pb, rb⟩ := hb
  exact ⟨_, pe_cmp (pc_dnotin hu pa pb) h1, re_op (r := rDI true) (od_inT true) ra rb⟩
/-- d[k] -/
def dGetT : D → D → Store → Res D
  | .dref n, .xtup ks, S => match S[n]?, asKeys ks with
    | some (.dit kvs), some k => (match valD kvs k with
      | some v => .ok v S
      | none => .no)
    | _, _ => .no
  | _, _, _ => .no
/-! ### a tuple that is a key -/
def mkTupX (xs : List D) (S : Store) : Res D := if small xs.length = true then .ok (.xtup xs) S else .no
def eTupX (f : SA) : SE := fun ρ S => (f ρ S).bind mkTupX
theorem de_tupX {x1 : Nat} (h : DA X W es fa) : DE X W (.Tuple es x1 pos) (eTupX fa) := by
  obtain ⟨t, p, r⟩ := h
  refine ⟨_, pe_tup p, fun ρ σ L H S Q er st p => r ρ σ L H S _ er st (p.step fun ds S1 L1 H1 e1 s1 p1 vs rv => ?_)⟩
  unfold mkTupX at p1
  by_cases hk : small ds.length = true
  · rw [if_pos hk] at p1
    exact ⟨by rw [rv.len]; exact small_le hk, fun q hq => p1.there (s1.ex hq) (s1.new hq) _ (.xtup upd_same (s1.no hq) (rv.mono (s1.ex hq)))⟩
  · rw [if_neg hk] at p1
    exact p1.elim
end
end Ls
/-! LsQ: list.pop(), list(range(n)) as a cell, a dict handed back as a cell. -/
namespace Ls
open PySem PySem.Spec PyProof.Rows L2
section
variable {X : Cx} {W : XW} {w : Wd}
def dPop : D → List D → Store → Res D
  | .ref n, [], S => match cell S n with
    | some xs => (match xs[xs.length - 1]? with
      | some y => .ok y (S.set n (.lst xs.dropLast))
      | none => .no)
    | none => .no
  | _, _, _ => .no
theorem RepL.dropLast {L : Ly} {H : Hp} : ∀ {vs : List V} {ds : List D}, RepL w L H vs ds → RepL w L H vs.dropLast ds.dropLast := fun {vs ds} r => by
  have := r.take (ds.length - 1)
  rw [List.dropLast_eq_take, List.dropLast_eq_take, r.len]
  exact this
theorem md_pop : MtD w rPop dPop := by
  intro W L H S x d vs ds Q st r rs p
  cases r with
  | @ref a n h k =>
    match ds, rs, p with
    | [], rs, p =>
      cases rs
      replace p : Post w W L H (QV w Q) (match cell S n with
        | some xs => (match xs[xs.length - 1]? with
          | some y => .ok y (S.set n (.lst xs.dropLast))
          | none => .no)
        | none => .no) := p
      cases e : cell S n with
      | none => simp only [e] at p; exact (show False from p).elim
      | some xs =>
        simp only [e] at p
        cases e2 : xs[xs.length - 1]? with
        | none => simp only [e2] at p; exact (show False from p).elim
        | some y =>
          simp only [e2] at p
          obtain ⟨us, hv, q⟩ := cell_ok e st h
          obtain ⟨v, ev, rv⟩ := q.get e2
          refine ⟨a, us, v, rfl, rfl, hv, by rw [q.len]; exact ev, ?_⟩
          have ex := st.wr (vs := us.dropLast) h hv
          exact p.there ex (st.write h hv q.dropLast) _ (rv.mono ex)
    | _ :: _, rs, p => exact (show False from p).elim
  | _ => exact (show False from by cases ds <;> exact p).elim
theorem de_pop {o : Expr} {so : SE} {apos cpos : Pos} (ho : DE X W o so) (hbase : attributeBase o "pop" X.env (eval o X.env) = eval o X.env := by rfl) (hline : (apos.endLine == cpos.line) = true := by rfl) :
    DE X W (.Call (.Attribute o "pop" apos) [] [] cpos) (eBM isLs dPop so aNil) := de_bm0 PySem.F.plainAttrs_list PySem.F.slot_list_pop PySem.F.type_list_pop mt_pop td_list md_pop ho hbase hline
def dLstRC : D → Store → Res D
  | .int i, S => if tameB i = true then .ok (.ref S.length) (S ++ [.lst (rangeD 0 i.toNat)]) else .no
  | _, _ => .no
def eLstRC (f : SE) : SE := fun ρ S => (f ρ S).bind dLstRC
theorem de_lstRC {a : Expr} {fa : SE} {p q pos pos' : Pos} (hm : X.mg "list" = none) (hm' : X.mg "range" = none) (ha : DE X W a fa) (hc : X.calm = true := by rfl) (hg : Gl X "list" := by rfl) (hg' : Gl X "range" := by rfl)
    (na : starEach [a] X.env = (false, eval a X.env) :: starEach [] X.env := by rfl) (ne : starEach [.Call (.Name "range" q) [a] [] pos'] X.env = (false, eval (.Call (.Name "range" q) [a] [] pos') X.env) :: starEach [] X.env := by rfl) :
    DE X W (.Call (.Name "list" p) [.Call (.Name "range" q) [a] [] pos'] [] pos) (eLstRC fa) := by
  obtain ⟨t, pt, r⟩ := ha
  refine ⟨_, pe_listRg hc hg hm (prg_1 hg' hm' pt na) ne, fun ρ σ L H S Q er st p => r ρ σ L H S _ er st (p.step fun d S1 L1 H1 e1 s1 p1 v rv => ?_)⟩
  cases rv <;> first | exact (show False from p1).elim | skip
  rename_i j
  replace p1 : Post (wd X W) W L1 H1 (QV (wd X W) Q) (if tameB j = true then .ok (.ref S1.length) (S1 ++ [.lst (rangeD 0 j.toNat)]) else .no) := p1
  by_cases h : tameB j = true
  · rw [if_pos h] at p1
    exact ⟨j, rfl, rgOk_of h, fun q hq => p1 (L1.add q) _ (Ex.newM hq (s1.no hq)) (s1.newM hq (repL_rg j)) _ (.ref (last_get s1.len) (.lst upd_same))⟩
  · rw [if_neg h] at p1
    exact p1.elim
open Classical in
/-- .. the dict that is handed back stays a cell, the only new one -/
noncomputable def leaveK (S : Store) (d : D) (S1 : Store) : Res D := match d with
  | .dref m => if m < S.length then .no else (match S1[m]? with
    | some o => if Kept S S1 ∧ belowO S.length o = true then .ok (.dref S.length) (S1.take S.length ++ [o]) else .no
    | none => .no)
  | _ => .no
open Classical in
theorem leaveK_ok : LvOk leaveK := by
  intro w W L L1 H H1 S S1 d v Q s e s1 r p
  cases r with
  | @dref a m h k =>
    replace p : Post w W L H (QV w Q) (if m < S.length then .no else (match S1[m]? with
      | some o => if Kept S S1 ∧ belowO S.length o = true then .ok (.dref S.length) (S1.take S.length ++ [o]) else .no
      | none => .no)) := p
    by_cases hm : m < S.length
    · rw [if_pos hm] at p; exact p.elim
    · rw [if_neg hm] at p
      cases ec : S1[m]? with
      | none => simp only [ec] at p; exact (show False from p).elim
      | some o =>
        simp only [ec] at p
        by_cases hk : Kept S S1 ∧ belowO S.length o = true
        · rw [if_pos hk] at p
          obtain ⟨ex, st⟩ := s.cutO e s1 hk.1 h (Nat.le_of_not_lt hm) ec hk.2
          exact p.there ex st _ (.dref (last_get s.len) k)
        · rw [if_neg hk] at p
          exact p.elim
  | _ => exact (show False from p).elim
end
end Ls
/-! Ls1: d[k] where k is a tuple; len(set(t)), t a tuple of whole numbers. -/
namespace Ls
open PySem PySem.Spec PyProof.Rows L2
section
variable {X : Cx} {W : XW} {w : Wd}
theorem od_getT : OpD w rDG dGetT := by
  intro W L H S x y a b Q st rx ry p
  cases rx with
  | @dref ad n h k =>
    cases ry with
    | @xtup qa vs ks hq nq rq =>
      replace p : Post w W L H (QV w Q) (match S[n]?, asKeys ks with
        | some (.dit kvs), some k => (match valD kvs k with
          | some v => .ok v S
          | none => .no)
        | _, _ => .no) := p
      cases e1 : S[n]? with
      | none => simp only [e1] at p; exact (show False from p).elim
      | some ob =>
        cases ob with
        | dit kvs =>
          cases e2 : asKeys ks with
          | none => simp only [e1, e2] at p; exact (show False from p).elim
          | some k =>
            simp only [e1, e2] at p
            cases e3 : valD kvs k with
            | none => simp only [e3] at p; exact (show False from p).elim
            | some d =>
              simp only [e3] at p
              obtain ⟨us, hv, r⟩ := st.ob n _ ad e1 h
              replace hv : H ad = some (.dT ((kvs.map (·.1)).zip us)) := hv
              obtain ⟨v, ev, rv⟩ := (val_rep r k).1 d e3
              have ek := asKeys_v rq e2
              subst ek
              exact ⟨ad, v, rfl, .inr ⟨_, k, qa, .inl hv, rfl, hq, ev.symm⟩, p.here st v rv⟩
        | _ => simp only [e1] at p; exact (show False from p).elim
    | _ => exact (show False from p).elim
  | _ => exact (show False from p).elim
theorem de_getT (hu : X.A.units + 1 < cLine) {a b : Expr} {sa sb : SE} {pos : Pos} (ha : DE X W a sa) (hb : DE X W b sb) (hs : NoSl b := by intro _ _; rfl) : DE X W (.Subscript a b pos) (eOp dGetT sa sb) := by
  obtain ⟨ta, pa, ra⟩ := ha
  obtain ⟨tb, pb, rb⟩ := hb
  exact ⟨_, pe_dget hu pa pb hs, re_op (r := rDG) od_getT ra rb⟩
/-! ### how many unlike ones -/
def distL : List Int → List Int
  | [] => []
  | x :: r => if x ∈ r then distL r else x :: distL r
theorem mem_distL {k : Int} : ∀ {l : List Int}, k ∈ distL l ↔ k ∈ l
  | [] => Iff.rfl
  | x :: r => by
    unfold distL
    by_cases h : x ∈ r
    · rw [if_pos h, mem_distL (l := r), List.mem_cons]
      exact ⟨.inr, fun z => z.elim (fun e => e ▸ h) id⟩
    · rw [if_neg h, List.mem_cons, List.mem_cons, mem_distL (l := r)]
theorem nd_distL : ∀ l : List Int, (distL l).Nodup
  | [] => List.nodup_nil
  | x :: r => by
    unfold distL
    by_cases h : x ∈ r
    · rw [if_pos h]; exact nd_distL r
    · rw [if_neg h, List.nodup_cons, mem_distL]
      exact ⟨h, nd_distL r⟩
theorem distL_le : ∀ l : List Int, (distL l).length ≤ l.length
  | [] => Nat.le_refl _
  | x :: r => by
    unfold distL
    have := distL_le r
    split <;> simp <;> omega
theorem nodup_sub : ∀ (a b : List Int), a.Nodup → (∀ x, x ∈ a → x ∈ b) → a.length ≤ b.length
  | [], b, _, _ => Nat.zero_le _
  | x :: a, b, n, h => by
    rw [List.nodup_cons] at n
    have hb := h x List.mem_cons_self
    have := nodup_sub a (b.erase x) n.2 fun y hy => by
      have ne : y ≠ x := fun e => n.1 (e ▸ hy)
      exact (List.mem_erase_of_ne ne).mpr (h y (List.mem_cons_of_mem _ hy))
    rw [List.length_erase_of_mem hb] at this
    have := List.length_pos_of_mem hb
    simp only [List.length_cons]
    omega
theorem setR_dist {v : World} {h : Heap} {a : Addr} {ns : List Int} {c : Nat} (R : SetR v h a (fun j => decide (j ∈ ns)) c) : c = (distL ns).length := by
  obtain ⟨o, es, ep, t, _, _, _, _, nd, hm, _, _, hn, _⟩ := R
  have e : (es.toList.map keyOf).length = c := by rw [List.length_map, Array.length_toList, hn]
  rw [← e]
  have m : ∀ k, k ∈ es.toList.map keyOf ↔ k ∈ distL ns := fun k => by
    rw [mem_distL, ← hm k]
    simp
  exact Nat.le_antisymm (nodup_sub _ _ nd fun x hx => (m x).mp hx) (nodup_sub _ _ (nd_distL ns) fun x hx => (m x).mpr hx)
def tLenSetT (K : PySem.W.Frag) (ta : TE) : TE := fun σ H Q => ta σ H fun x H1 => ∃ (l : Addr) (ns : List Int), x = V.ref l ∧ SqT K H1 l (ns.map V.int) ∧ ns.length < 60 ∧ Q (.int ((distL ns).length : Nat)) H1
theorem pe_lenSetT {a : Expr} {ta : TE} {p p2 q pos : Pos} (hg : Gl X "len") (hm : X.mg "len" = none) (hg2 : Gl X "set") (hm2 : X.mg "set" = none) (ha : PE X a ta) (hc : X.calm = true := by rfl)
    (na : starEach [a] X.env = (false, eval a X.env) :: starEach [] X.env := by rfl) : PE X (.Call (.Name "len" p) [.Call (.Name "set" p2) [a] [] q] [] pos) (tLenSetT X.K ta) :=
  ⟨fun pins s σ H Q I h => Call_ (ld_blt I hg hm PySem.boot_len (callWith_builtin1 (args_cons (Call_ (ld_blt I hg2 hm2 boot_set (callWith_type1 (args_cons (thn (ha.run pins s σ H _ I h) fun v s1 ⟨x, H1, I1, r1, l, ns, ex, hq, hl, q1⟩ => args_nil (by
    subst ex
    cases r1
    obtain ⟨its, rv, tl, _⟩ := I1.tuple hq
    refine call_set_tupI (items := its.toArray) ns (I1.ok.hd hc) tl (by simpa using rv.ints) (by have := scan60; omega) fun h' tk c hR hc' hk => args_nil ?_
    have ec := setR_dist hR
    obtain ⟨o, es, ep, t, ho, hex, hd, _, _, _, _, hf, hn, _⟩ := hR
    have I2 : Inv X pins σ H1 { s1 with heap := h', toks := tk } := I1.kept hk
    have := distL_le ns
    exact call_len_set ho hex hd hf (by rw [hn, ec]; omega) ⟨.int ((distL ns).length : Nat), H1, I2.tok _, ⟨_, by rw [hn, ec]⟩, q1⟩)) na) na rfl))) rfl) rfl rfl))⟩
def dLenSet : D → Store → Res D
  | .tup xs, S => (match intsOf xs with
    | some ns => if Nat.ble ns.length 59 = true then .ok (.int ((distL ns).length : Nat)) S else .no
    | none => .no)
  | _, _ => .no
def eLenSet (f : SE) : SE := fun ρ S => (f ρ S).bind dLenSet
theorem de_lenSet {a : Expr} {fa : SE} {p q pos pos' : Pos} (hm : X.mg "len" = none) (hm' : X.mg "set" = none) (ha : DE X W a fa) (hc : X.calm = true := by rfl) (hg : Gl X "len" := by rfl) (hg' : Gl X "set" := by rfl)
    (na : starEach [a] X.env = (false, eval a X.env) :: starEach [] X.env := by rfl) :
    DE X W (.Call (.Name "len" p) [.Call (.Name "set" q) [a] [] pos'] [] pos) (eLenSet fa) := by
  obtain ⟨t, pt, r⟩ := ha
  refine ⟨_, pe_lenSetT hg hm hg' hm' pt hc na, fun ρ σ L H S Q er st p => r ρ σ L H S _ er st (p.step fun d S1 L1 H1 e1 s1 p1 v rv => ?_)⟩
  cases rv <;> first | exact (show False from p1).elim | skip
  rename_i a' us ds h n rr
  replace p1 : Post (wd X W) W L1 H1 (QV (wd X W) Q) (match intsOf ds with
    | some ns => if Nat.ble ns.length 59 = true then .ok (.int ((distL ns).length : Nat)) S1 else .no
    | none => .no) := p1
  cases ei : intsOf ds with
  | none => rw [ei] at p1; exact (show False from p1).elim
  | some ns =>
    simp only [ei] at p1
    by_cases hk : Nat.ble ns.length 59 = true
    · simp only [if_pos hk] at p1
      simp only [Nat.ble_eq] at hk
      have q := intsOf_rep ei rr
      subst q
      exact ⟨a', ns, rfl, .inl h, by omega, p1.here s1 _ (.int _)⟩
    · simp only [if_neg hk] at p1
      exact p1.elim
end
end Ls
/-! Ls2: tuples whose object is known: made, weakened, counted in. -/
namespace Ls
open PySem PySem.Spec PyProof.Rows L2
mutual
def wk : D → D
  | .stup xs => .tup (wkL xs)
  | .xtup xs => .tup (wkL xs)
  | .tup xs => .tup (wkL xs)
  | .lst xs => .lst (wkL xs)
  | d => d
def wkL : List D → List D
  | [] => []
  | d :: r => wk d :: wkL r
end
theorem wkL_map : ∀ xs : List D, wkL xs = xs.map wk
  | [] => by rw [wkL]; rfl
  | d :: r => by rw [wkL, wkL_map r]; rfl
section
variable {X : Cx} {W : XW} {w : Wd} {L : Ly} {H : Hp}
mutual
theorem Rep.wk : ∀ {v : V} {d : D}, Rep w L H v d → Rep w L H v (wk d)
  | _, _, .non => by rw [Ls.wk]; exact .non; all_goals (intros; contradiction)
  | _, _, .bl b => by rw [Ls.wk]; exact .bl b; all_goals (intros; contradiction)
  | _, _, .int i => by rw [Ls.wk]; exact .int i; all_goals (intros; contradiction)
  | _, _, .str x => by rw [Ls.wk]; exact .str x; all_goals (intros; contradiction)
  | _, _, .tup h n r => by rw [Ls.wk]; exact .tup h n (RepL.wk r)
  | _, _, .stup h c n r => by rw [Ls.wk]; exact .tup (.inr ⟨_, h⟩) n (RepL.wk r)
  | _, _, .xtup h n r => by rw [Ls.wk]; exact .tup (.inl h) n (RepL.wk r)
  | _, _, .lst h n r => by rw [Ls.wk]; exact .lst h n (RepL.wk r)
  | _, _, .emp h n => by rw [Ls.wk]; exact .emp h n; all_goals (intros; contradiction)
  | _, _, .scr h => by rw [Ls.wk]; exact .scr h; all_goals (intros; contradiction)
  | _, _, .ref h k => by rw [Ls.wk]; exact .ref h k; all_goals (intros; contradiction)
  | _, _, .dref h k => by rw [Ls.wk]; exact .dref h k; all_goals (intros; contradiction)
  | _, _, .iref h k => by rw [Ls.wk]; exact .iref h k; all_goals (intros; contradiction)
  | _, _, .gl h => by rw [Ls.wk]; exact .gl h; all_goals (intros; contradiction)
  | _, _, .ty n => by rw [Ls.wk]; exact .ty n; all_goals (intros; contradiction)
  | _, _, .opq h => by rw [Ls.wk]; exact .opq h; all_goals (intros; contradiction)
  | _, _, .err0 h m => by rw [Ls.wk]; exact .err0 h m; all_goals (intros; contradiction)
  | _, _, .err2 h m hd n r s => by rw [Ls.wk]; exact .err2 h m hd n r s; all_goals (intros; contradiction)
theorem RepL.wk : ∀ {vs : List V} {ds : List D}, RepL w L H vs ds → RepL w L H vs (wkL ds)
  | _, _, .nil => by rw [wkL]; exact .nil
  | _, _, .cons h t => by rw [wkL]; exact .cons (Rep.wk h) (RepL.wk t)
end
def eWk (f : SE) : SE := fun ρ S => (f ρ S).bind fun d S1 => .ok (wk d) S1
theorem de_wk {e : Expr} {f : SE} (h : DE X W e f) : DE X W e (eWk f) := by
  obtain ⟨t, p, r⟩ := h
  exact ⟨t, p, fun ρ σ L H S Q er st p => r ρ σ L H S Q er st (p.step fun d S1 L1 H1 e1 s1 p1 v rv => p1.here s1 _ rv.wk)⟩
/-! ### tuple(list), its object known -/
def rTupS (K : PySem.W.Frag) : List V → Hp → VK → Prop := fun xs H Q => ∃ (a : Addr) (ys : List V), xs = [V.ref a] ∧ SqL K H a ys ∧ ∀ (q : Addr) (o : Obj), H q = none → o.cls = .type "tuple" ∧ o.dict = none → Q (.ref q) (upd H q (.frz o (.tup ys)))
theorem cr_tupS : CallR X (.type "tuple") (rTupS X.K) := by
  intro pins s σ H vs us Q I r h
  obtain ⟨a, ys, rfl, hs, q⟩ := h
  obtain ⟨its, rv, pl, hz⟩ := I.list hs
  rw [Vals.ref1 r]
  refine call_tuple_list pl.isList (fun h' hk => ⟨.ref h'.objs.size, upd H h'.objs.size (.frz { cls := .type "tuple", data := .seq its.toArray } (.tup ys)), ?_, rfl, ?_⟩) (by rw [List.size_toArray, ← rv.length]; exact hz)
  · have I1 : Inv X pins σ H { s with heap := h' } := I.kept (t' := s.toks) hk
    exact I1.laid (t' := s.toks) (fun b o e => Heap.get?_push_of_some _ e) (Nat.le_refl _) ⟨Heap.get?_push_size _ rfl, hz, its, rv, IsTup.new _ _⟩
  · exact q _ _ ((I.kept (t' := s.toks) hk).hok.fresh (Nat.le_refl _)) ⟨rfl, rfl⟩
def dTupleS : List D → Store → Res D
  | [d], S => match listOf S d with
    | some xs => .ok (.stup xs) S
    | none => .no
  | _, _ => .no
theorem cd_tupS : CallD w (rTupS w.K) dTupleS := by
  intro W L H S vs ds Q st rs p
  match ds, rs, p with
  | [d], rs, p =>
    obtain ⟨v, rfl, r⟩ := rep1 rs
    replace p : Post w W L H (QV w Q) (match listOf S d with
      | some xs => .ok (.stup xs) S
      | none => .no) := p
    cases e : listOf S d with
    | none => simp only [e] at p; exact (show False from p).elim
    | some xs =>
      simp only [e] at p
      obtain ⟨a, us, rfl, hq, q⟩ := listOf_ok st r e
      exact ⟨a, us, rfl, hq, fun b o hb hc => p.there (st.ex hb) (st.new hb) _ (.stup upd_same hc (st.no hb) (q.mono (st.ex hb)))⟩
  | [], rs, p => exact (show False from p).elim
  | _ :: _ :: _, rs, p => exact (show False from p).elim
theorem de_tupS {e : Expr} {es : List Expr} {fa : SA} {p pos : Pos} (hm : X.mg "tuple" = none) (ha : DA X W (e :: es) fa) (hg : Gl X "tuple" := by rfl) (he : starEach (e :: es) X.env = (false, eval e X.env) :: starEach es X.env := by rfl) (hpl : (backTo pos (starEach es X.env)).any (·.1) = false := by rfl) :
    DE X W (.Call (.Name "tuple" p) (e :: es) [] pos) (eCB dTupleS fa) := de_callTy cr_tupS cd_tupS hm (by decide +kernel) ha hg (by decide) (by decide) he hpl
/-! ### t.count(x), t's object known -/
def tyS (H : Hp) (x : V) : Prop := ∃ (a : Addr) (o : Obj) (xs : List V), x = V.ref a ∧ H a = some (.frz o (.tup xs)) ∧ o.cls = .type "tuple" ∧ o.dict = none
def tBMS (r : V → List V → Hp → VK → Prop) (to : TE) (t : TA) : TE := fun σ H Q => to σ H fun x H1 => tyS H1 x ∧ t σ H1 fun xs H2 => r x xs H2 Q
theorem pe_bmS {o e : Expr} {to : TE} {t : TA} {name : Str} {apos cpos : Pos} {id : String} {r : V → List V → Hp → VK → Prop} (slot : Slot "tuple" name id) (hty : typeOf (.builtin id) = pure (.type "method_descriptor")) (hm : MtR X id r) (ho : PE X o to) (ha : PA X [e] t)
    (h0 : attributeBase o name X.env (eval o X.env) = eval o X.env) (hf : ((backTo cpos (starEach [e] X.env)).all (fun x => !x.1) && (backToKw cpos (keywordEach [] X.env)).all (fun x => x.1.isSome) && decide ([e].length + ([] : List Keyword).length + (if ([] : List Keyword).isEmpty then 0 else 1) < 30)) = true)
    (hl : (apos.endLine == cpos.line) = true) (na : starEach [e] X.env = (false, eval e X.env) :: starEach [] X.env) : PE X (.Call (.Attribute o name apos) [e] [] cpos) (tBMS r to t) :=
  ⟨fun pins s σ H Q I h => wpAny_Call_method_late h0 hf hl rfl (thn (ho.run pins s σ H _ I h) fun v s1 ⟨x, H1, I1, r1, ⟨a, ob, xs, ex, e1, e2, e3⟩, q1⟩ => by
    subst ex
    cases r1
    have g := (I1.hok a _ e1).1
    have run := ha.run cpos pins s1 σ H1 _ I1 q1
    rw [na] at run
    refine ⟨"tuple", id, PySem.F.plainAttrs_tuple, slot, hty, ⟨_, g, e2⟩, fun b eb => by cases eb; exact ⟨_, g, e3⟩, Calls.callWith_builtin (by rw [na]; rfl) ?_⟩
    rw [na]
    exact Calls.evalArgs_plain (thn run fun us s2 ⟨vs, H2, I2, r2, q2⟩ => hm pins s2 σ H2 (.ref a) vs (.ref a) us Q I2 rfl r2 q2))⟩
def rCntT (K : PySem.W.Frag) : V → List V → Hp → VK → Prop := fun x xs H Q => ∃ (a : Addr) (y : V) (d : PyData) (ds : List PyData), x = V.ref a ∧ xs = [y] ∧ Dp K H (V.ref a) (.tuple ds) ∧ Dp K H y d ∧ SeqAt.shaped (.tuple ds) = true ∧ SeqAt.shaped d = true ∧ Q (.int ((ds.countP fun z => PyData.eqv z d : Nat) : Int)) H
theorem mt_cntT (hu : X.A.units + 65 < cLine) : MtR X "tuple.count" (rCntT X.K) := by
  intro pins s σ H x xs v us Q I rx rxs ⟨a, y, d, ds, e1, e2, hl, hy, sl, sd, q⟩
  subst e1 e2
  cases rx
  match us, rxs with
  | [u], .cons ry .nil =>
    obtain ⟨bs, rd⟩ := Dp.reads I d y _ hy ry
    match hl with
    | .tup hs ha =>
      obtain ⟨its, rv, pl, _⟩ := I.tuple hs
      obtain ⟨as, ra⟩ := Dp.readsAll I ds _ its ha rv
      exact SeqAt.count_tuple_data pl ra rd (PyData.plainAll_of_canLay0 ds (SeqAt.canLay_of_shaped sl)) (plain_of sd) (room_in_shaped sd hu) ⟨.int _, H, I.tok _, ⟨_, rfl⟩, q⟩
/-- how often -/
def cntS (d : D) (ds : List D) (S : Store) : Res D := match d, ds with
  | .stup xs, [y] => (match pdL xs, pdS S y with
    | some us, some z => if (SeqAt.shaped (.tuple us) && SeqAt.shaped z) = true then .ok (.int ((us.countP fun u => PyData.eqv u z : Nat) : Int)) S else .no
    | _, _ => .no)
  | _, _ => .no
def isS : D → Bool
  | .stup _ => true
  | _ => false
theorem de_cntS {o e : Expr} {so : SE} {fa : SA} {apos cpos : Pos} (hu : X.A.units + 65 < cLine) (ho : DE X W o so) (ha : DA X W [e] fa) (h0 : attributeBase o "count" X.env (eval o X.env) = eval o X.env := by rfl)
    (hf : ((backTo cpos (starEach [e] X.env)).all (fun x => !x.1) && (backToKw cpos (keywordEach [] X.env)).all (fun x => x.1.isSome) && decide ([e].length + ([] : List Keyword).length + (if ([] : List Keyword).isEmpty then 0 else 1) < 30)) = true := by rfl)
    (hl : (apos.endLine == cpos.line) = true := by rfl) (na : starEach [e] X.env = (false, eval e X.env) :: starEach [] X.env := by rfl) : DE X W (.Call (.Attribute o "count" apos) [e] [] cpos) (eBM isS cntS so fa) := by
  obtain ⟨to, po, ro⟩ := ho
  obtain ⟨ta, pa, ra⟩ := ha
  refine ⟨_, pe_bmS PySem.F.slot_tuple_count PySem.F.type_tuple_count (mt_cntT hu) po pa h0 hf hl na, fun ρ σ L H S Q er st p => ro ρ σ L H S _ er st (p.step fun d S1 L1 H1 e1 s1 p1 v rv => ?_)⟩
  cases rv with
  | @stup a ob xs ds h c n r =>
    replace p1 : Post (wd X W) W L1 H1 (QV (wd X W) Q) ((fa ρ S1).bind fun es S2 => cntS (.stup ds) es S2) := p1
    refine ⟨⟨a, ob, xs, rfl, h, c⟩, ra ρ σ L1 H1 S1 _ (er.mono e1) s1 (p1.step fun es S2 L2 H2 e2 s2 p2 vs rvs => ?_)⟩
    match es, rvs, p2 with
    | [y], .cons ry .nil, p2 =>
      replace p2 : Post (wd X W) W L2 H2 (QV (wd X W) Q) (match pdL ds, pdS S2 y with
        | some us, some z => if (SeqAt.shaped (.tuple us) && SeqAt.shaped z) = true then .ok (.int ((us.countP fun u => PyData.eqv u z : Nat) : Int)) S2 else .no
        | _, _ => .no) := p2
      cases q1 : pdL ds with
      | none => simp only [q1] at p2; exact (show False from p2).elim
      | some us =>
        cases q2 : pdS S2 y with
        | none => simp only [q1, q2] at p2; exact (show False from p2).elim
        | some z =>
          simp only [q1, q2] at p2
          by_cases hk : (SeqAt.shaped (.tuple us) && SeqAt.shaped z) = true
          · rw [if_pos hk] at p2
            have hk2 := Bool.and_eq_true_iff.mp hk
            have h' := (e2.keep _ _ h noT_frz n).1
            exact ⟨a, _, z, us, rfl, rfl, .tup (.inl (.inr ⟨_, h'⟩)) (pdL_dp (r.mono e2) q1), pdS_dp s2 ry q2, hk2.1, hk2.2, p2.here s2 _ (.int _)⟩
          · rw [if_neg hk] at p2
            exact p2.elim
    | [], _, p2 => exact (show False from p2).elim
    | _ :: _ :: _, _, p2 => exact (show False from p2).elim
  | _ => exact (show False from p1).elim
end
end Ls
/-! Ls3: a lambda with parameters and no names of its maker: made, handed on, called. -/
namespace Ls
open PySem PySem.Spec PyProof.Rows L2
theorem clo_none (cells : List (Str × Addr)) : ∀ (names : List (Str × NameKind)) (acc : List (Str × Addr)), (∀ y ∈ names, y.2 ≠ .free) → cloFrom cells names acc = acc
  | [], _, _ => rfl
  | (n, k) :: r, acc, h => by
    have hk : (k == NameKind.free) = false := by
      have := h (n, k) (by simp)
      cases k <;> first | rfl | exact absurd rfl this
    unfold cloFrom
    rw [hk]
    exact clo_none cells r acc fun y hy => h y (List.mem_cons_of_mem _ hy)
theorem lamO_ok {Pr : Program} {wo : World} {H : Hp} {h : Heap} {a c : Addr} {q : Str} {ps : Arguments} {bd : Expr} {sc : Scope} {pm ctv : Value} (e : h.get? a = some (PySem.W.kla_obj "<lambda>" q ps bd sc [] pm c ctv)) : ObjOk Pr wo H h a (LamO a c q ps bd sc) :=
  ⟨⟨pm, ctv, e⟩, ⟨_, e⟩, fun _ _ ⟨x, y, z⟩ k => ⟨x, y, k _ z⟩⟩
theorem no_ext {w : Wd} {L : Ly} {H : Hp} {S : Store} {a : Addr} {φ : Heap → Prop} (s : Sto w L H S) (h : H a = some (.ext φ)) : a ∉ L := fun z => by
  rcases z with z | z
  · obtain ⟨n, e⟩ := List.mem_iff_getElem?.mp z
    have hn : n < S.length := by rw [← s.len]; exact (List.getElem?_eq_some_iff.mp e).1
    obtain ⟨vs, sh, _⟩ := s.ob n S[n] a (by simp [hn]) e
    obtain ⟨u, hu, k0, _⟩ := sh.hp
    rw [h] at hu
    cases hu
    exact k0 rfl
  · obtain ⟨us, e⟩ := s.pr a z
    rw [h] at e
    cases e
section
variable {X : Cx} {pins : List (Addr × Obj)} {σ : L2.St} {H : Hp} {s : Shared}
/-- it is made, and its object is known from then on -/
theorem lam_new {T : Tb} {c P : Addr} {ps : Arguments} {bd : Expr} {sc : Scope} {pos : Pos} {E R : Value → Shared → Prop} (I : Inv X pins σ H s) (TB : LamX.TabB X.base X.mg c P) (hco : X.env.code = .ref c)
    (mT : (P, X.env.qual ++ "<lambda>") ∈ T) (uT : ∀ p ∈ T, p.1 = P → p.2 = X.env.qual ++ "<lambda>") (tT : LamX.Tabs T H) (hdf : defaultsOf ps X.env = ([], [])) (nf : ∀ y ∈ sc.names, y.2 ≠ .free)
    (go : ∀ (f d : Addr) (H2 : Hp) (s2 : Shared), Inv X pins σ H2 s2 → LamX.ExtN H H2 → LamX.Tabs T H2 → H2 f = some (LamO f d (X.env.qual ++ "<lambda>") ps bd sc) → H2 d = some (LamX.CodeO d (X.env.qual ++ "<lambda>")) → R (.ref f) s2) :
    wpAny (model X.prog X.w) X.A (eval (.Lambda ps bd sc pos) X.env) R E s := by
  obtain ⟨tb, tP, tOk, tAll⟩ := tT _ mT
  have cl := clo_none X.env.cells sc.names [] nf
  have clo := closure_ok (scope := sc) (env := X.env) fun y hy e => absurd e (nf y hy)
  rw [cl] at clo
  refine PySem.W.kla_eval hdf ?_
  have bP : s.heap.BuiltinsAt X.mg P := TB.bm.keeps I.bk
  have oP : s.heap.get? P = some { cls := .none, data := .fields tb } := I.hok P _ tP
  cases found : codeAmong pos tb.toList with
  | some cv =>
    obtain ⟨d, rfl, hd⟩ := tAll pos cv found
    refine PySem.W.kla_makeFunctionHit (mg := X.mg) (c := c) (P := P) (ps := tb) clo I.ok.glob (I.mod.glob.keeps I.bk) hco (TB.code.keeps I.bk) oP tOk found bP fun ctv g tk keep sz => ?_
    have I0 : Inv X pins σ H { s with heap := g, toks := tk } := I.kept keep
    have fr : H g.objs.size = none := I0.hok.fresh (Nat.le_refl _)
    have I1 := I0.laid (h' := g.push (PySem.W.kla_obj "<lambda>" (X.env.qual ++ "<lambda>") ps bd sc [] ((X.mg "__name__").getD .none) d ctv)) (t' := tk) (a := g.objs.size) (o := LamO g.objs.size d (X.env.qual ++ "<lambda>") ps bd sc) (fun b u e => Heap.get?_push_of_some _ e) (Nat.le_refl _) (lamO_ok (Heap.get?_push_size _ rfl))
    exact go g.objs.size d _ _ I1 (.of fun b u e => by rw [upd_ne (ne_of_none e fr)]; exact e) (tabs_new tT fr) upd_same (by rw [upd_ne (ne_of_none hd fr)]; exact hd)
  | none =>
    refine PySem.W.kla_makeFunction (mg := X.mg) (c := c) (P := P) (ps := tb) clo I.ok.glob (I.mod.glob.keeps I.bk) hco (TB.code.keeps I.bk) oP tOk found TB.gP bP fun d ctv g tk keep ge lt cr gP => ?_
    obtain ⟨d2, od, vs, t, e2, god, dd, vd⟩ := cr
    cases e2
    have nD : H d = none := I.hok.fresh ge
    have I0 := LamX.inv_table (t' := tk) (q := X.env.qual ++ "<lambda>") (more := #[rawInt pos.line, rawInt pos.col, .ref d]) (h' := g) I tP keep gP ge ⟨od, vs, t, god, dd, vd⟩
    generalize hH : upd (upd H P (.tbl (tb ++ #[rawInt pos.line, rawInt pos.col, .ref d]))) d (LamX.CodeO d (X.env.qual ++ "<lambda>")) = G at I0
    have ext : LamX.ExtN H G := fun b u e n => by
      rw [← hH, upd_ne (ne_of_none e nD), upd_ne (fun z => n tb (Option.some.inj (e.symm.trans (by rw [z]; exact tP))))]
      exact e
    have gD : G d = some (LamX.CodeO d (X.env.qual ++ "<lambda>")) := by rw [← hH]; exact upd_same
    have snoc : (tb ++ #[rawInt pos.line, rawInt pos.col, .ref d]).toList = tb.toList ++ [rawInt pos.line, rawInt pos.col, .ref d] := by simp
    have tG : LamX.Tabs T G := fun p hp => by
      by_cases hb : p.1 = P
      · rw [uT p hp hb, hb]
        refine ⟨_, by rw [← hH, upd_ne (ne_of_none tP nD), upd_same], by rw [snoc]; exact PySem.TriplesOk_snoc _ _ _ _ tOk, fun p' cv hcv => ?_⟩
        rw [snoc] at hcv
        rcases LamX.among_app _ tOk hcv with z | z
        · obtain ⟨c0, e1, e2⟩ := tAll p' cv z
          exact ⟨c0, e1, ext _ _ e2 (LamX.codeO_ne)⟩
        · exact ⟨d, z, gD⟩
      · obtain ⟨tb2, a1, a2, a3⟩ := tT p hp
        refine ⟨tb2, by rw [← hH, upd_ne (ne_of_none a1 nD), upd_ne hb]; exact a1, a2, fun p' cv hcv => ?_⟩
        obtain ⟨c0, e1, e2⟩ := a3 p' cv hcv
        exact ⟨c0, e1, ext _ _ e2 (LamX.codeO_ne)⟩
    have fr : G g.objs.size = none := I0.hok.fresh (Nat.le_refl _)
    have I1 := I0.laid (h' := g.push (PySem.W.kla_obj "<lambda>" (X.env.qual ++ "<lambda>") ps bd sc [] ((X.mg "__name__").getD .none) d ctv)) (t' := tk) (a := g.objs.size) (o := LamO g.objs.size d (X.env.qual ++ "<lambda>") ps bd sc) (fun b u e => Heap.get?_push_of_some _ e) (Nat.le_refl _) (lamO_ok (Heap.get?_push_size _ rfl))
    exact go g.objs.size d _ _ I1 (fun b u e n => by rw [upd_ne (ne_of_none (ext b u e n) fr)]; exact ext b u e n) (tabs_new tG fr) upd_same (by rw [upd_ne (ne_of_none gD fr)]; exact gD)
end
section
variable {X : Cx} {W : XW}
theorem de_lam {c P : Addr} {ps : Arguments} {bd : Expr} {sc : Scope} {pos : Pos} {qn : Str} (hW : W.er = none) (TB : LamX.TabB X.base X.mg c P) (hco : X.env.code = .ref c) (hqn : X.env.qual = qn) (mT : (P, qn ++ "<lambda>") ∈ W.T) (uT : ∀ p ∈ W.T, p.1 = P → p.2 = qn ++ "<lambda>")
    (nf : ∀ y ∈ sc.names, y.2 ≠ .free) (hdf : defaultsOf ps X.env = ([], []) := by rfl) : DE X W (.Lambda ps bd sc pos) (eC (.opq (.lam (qn ++ "<lambda>") ps bd sc))) := by
  subst hqn
  refine ⟨fun σ H Q => LamX.Tabs W.T H ∧ ∀ (f d : Addr) (H2 : Hp), LamX.ExtN H H2 → LamX.Tabs W.T H2 → H2 f = some (LamO f d (X.env.qual ++ "<lambda>") ps bd sc) → H2 d = some (LamX.CodeO d (X.env.qual ++ "<lambda>")) → Q (.ref f) H2, ⟨fun pins s σ H Q I h => ?_⟩, fun ρ σ L H S Q er st p => ?_⟩
  · obtain ⟨tT, h⟩ := h
    exact lam_new I TB hco mT uT tT hdf nf fun f d H2 s2 I2 ex t2 h1 h2 => ⟨.ref f, H2, I2, rfl, h f d H2 ex t2 h1 h2⟩
  · refine ⟨st.tab, fun f d H2 eN t2 h1 h2 => ?_⟩
    obtain ⟨ex, st2⟩ := st.tabs eN t2
    exact p.there ex st2 _ (.opq ⟨f, d, rfl, h1, h2, no_ext st2 h1, no_ext st2 h2⟩)
end
/-! ### it is called -/
/-- a lambda's function of data -/
noncomputable def lamD (n m : Nat) (fe : SE) : List D → Store → Res D := fnD n m leave (sRet fe)
theorem run_lam {CX : CXT} {Pr : Program} {wo : World} {K : PySem.W.Frag} {mg : Str → Option Value} {base : Heap} {k : Nat} {f c : Addr} {q : Str} {ps : Arguments} {bd : Expr} {sc : Scope} {pm ctv : Value} {N pr : List Str} {A : Around} {outer : List Env} {s : Shared} {H : Hp} {us : List Value} {vs : List V} {Q : VK} {E : XK}
    (hf : s.heap.get? f = some (PySem.W.kla_obj "<lambda>" q ps bd sc [] pm c ctv)) (hc : ∃ (oc : Obj) (fs : Array Value) (t : Tok), s.heap.get? c = some oc ∧ oc.data = .fields fs ∧ fs[1]? = some (.str q t)) (Sc : FnScope N pr sc) (hr : Room (k + 1) A) (e0 : Env0 Pr wo K mg base A outer s H)
    (hb : bindArgs (PySem.W.kla_fn "<lambda>" q ps bd sc [] pm (.ref c) ctv) ⟨us, []⟩ = pure (pr.zip us)) (rv : Vals vs us) (hl : vs.length = pr.length)
    (body : Room k (A.deeper (envOfC q sc s.heap.objs.size f (.ref c))) → ∃ t, PE (cxOf CX Pr wo K mg base N q sc f (.ref c) A outer s H E) bd t ∧ t (L2.start N vs) H Q) :
    codeAny (model Pr wo) A (.call (.ref f) ⟨us, []⟩) (CR CX outer Pr wo H s Q E) s := by
  have nl : s.heap.NoLimit := e0.mod.nolimit.keeps fun b o e => (e0.bs b o e).1
  have kinds : ∀ y ∈ pr.zip us, sc.names.lookup y.1 = some .local ∨ (sc.names.lookup y.1 = some .cell ∧ ((cellsFrom (s.heap.objs.size + 1) sc.names []).lookup y.1).isSome = true) := fun ⟨n, v⟩ hy => by
    rcases Sc.par n (List.of_mem_zip hy).1 with z | z
    · exact .inl z
    · exact .inr ⟨z, PySem.W.cellsFrom_some _ _ _ (.inl z)⟩
  obtain ⟨oc, fs, t, h1, h2, h3⟩ := hc
  refine PySem.W.kla_callFunE hr.depth hf rfl Sc.co Sc.gen rfl ⟨c, oc, fs, t, rfl, h1, h2, h3⟩ ?_
  rw [hb]
  refine wpAny_pure (wpAny_newFunctionEnv_cells Sc.kind kinds fun env he s1 x => ?_)
  subst he
  refine ⟨nl.keeps x.toInCall.keep, PySem.W.kla_codeExpr ?_⟩
  obtain ⟨t, ht, hq⟩ := body (hr.deeper _)
  have J : Inv (cxOf CX Pr wo K mg base N q sc f (.ref c) A outer s H E) [] (L2.start N vs) H s1 := inv_start Sc hr.hd e0 hl rv x
  refine wpAny_mono (ht.run [] s1 (L2.start N vs) H Q J hq) (fun v s2 hs => ?_) fun _ _ z => z
  obtain ⟨u, H2, I2, ru, qu⟩ := hs
  exact ⟨u, H2, I2.os, I2.bare, I2.base, I2.hok, ru, qu⟩
/-- what is known of a lambda: how it is called, what it answers -/
def LamHeld (b : Bool) (Pr : Program) (wo : World) (K : PySem.W.Frag) (mg : Str → Option Value) (base : Heap) (T : Tb) (k : Nat) (o : Opq) (F : List D → Store → Res D) : Prop :=
  ∃ (q : Str) (ps : Arguments) (bd : Expr) (sc : Scope) (N pr : List Str) (fe : SE), o = .lam q ps bd sc ∧ FnScope N pr sc ∧ F = lamD pr.length N.length fe ∧
    (∀ (pm cv ctv : Value) (us : List Value), us.length = pr.length → bindArgs (PySem.W.kla_fn "<lambda>" q ps bd sc [] pm cv ctv) ⟨us, []⟩ = pure (pr.zip us)) ∧
    ∀ (c f : Addr) (A : Around) (outer : List Env) (s : Shared) (H : Hp) (E : XK), RmQ b k (A.deeper (envOfC q sc s.heap.objs.size f (.ref c))) → DE (cxOf (L2.CX Pr wo) Pr wo K mg base N q sc f (.ref c) A outer s H E) ⟨T, some E, none⟩ bd fe
noncomputable def eCallF (i : Nat) (tab : Opq → Option (List D → Store → Res D)) (fa : SA) : SE := fun ρ S => match ρ[i]? with
  | some (some (.opq o)) => (match tab o with
    | some F => (fa ρ S).bind F
    | none => .no)
  | _ => .no
section
variable {X : Cx} {W : XW} {b : Bool}
theorem de_callF {k i : Nat} {x : Str} {tab : Opq → Option (List D → Store → Res D)} {e : Expr} {es : List Expr} {fa : SA} {p pos : Pos} (hW : W.er = none) (hr : RmQ b (k + 1) X.A) (ht : ∀ o F, tab o = some F → LamHeld b X.prog X.w X.K X.mg X.base W.T k o F) (tk : Takes X fun cls d _ H => W.wish cls d H) (ha : DA X W (e :: es) fa)
    (hN : X.N[i]? = some x := by rfl) (hv : Vis X.env.scope x := by first | exact Or.inl rfl | exact Or.inr (Or.inl rfl) | exact Or.inr (Or.inr rfl)) (hd : (x == ("__debug__" : Str)) = false := by decide) (hcd : (x == ("__classdict__" : Str)) = false := by decide)
    (he : starEach (e :: es) X.env = (false, eval e X.env) :: starEach es X.env := by rfl) (hpl : (backTo pos (starEach es X.env)).any (·.1) = false := by rfl) :
    DE X W (.Call (.Name x p) (e :: es) [] pos) (eCallF i tab fa) := by
  obtain ⟨t, q, r⟩ := ha
  have hwd : wd X W = ⟨X.K, X.mg, W.T, none⟩ := by show (⟨X.K, X.mg, W.T, W.er⟩ : Wd) = _; rw [hW]
  refine ⟨fun σ H Q => ∃ (a d : Addr) (q : Str) (ps : Arguments) (bd : Expr) (sc : Scope) (F : List D → Store → Res D), σ[i]? = some (some (.ref a)) ∧ tab (.lam q ps bd sc) = some F ∧ H a = some (LamO a d q ps bd sc) ∧
    t σ H fun vs H1 => H1 a = some (LamO a d q ps bd sc) ∧ H1 d = some (LamX.CodeO d q) ∧ ∃ ds L S, RepL (wd X W) L H1 vs ds ∧ Sto (wd X W) L H1 S ∧ Post (wd X W) ⟨W.T, some W.wish, W.er⟩ L H1 (QV (wd X W) Q) (F ds S), ⟨fun pins s σ H Q I h => ?_⟩, fun ρ σ L H S Q er st p => ?_⟩
  · obtain ⟨a, d, qq, ps, bd, sc, F, hs, hF, h0, h⟩ := h
    obtain ⟨q1, ps1, bd1, sc1, N, pr, fe, eo, Sc, rfl, hb, hbody⟩ := ht _ F hF
    cases eo
    refine wpAny_Call_Name_kw (thn ((pe_var (pos := p) (i := i) hN hv hd hcd).run pins s σ H (fun v H1 => v = .ref a ∧ H1 = H) I ⟨.ref a, hs, rfl, rfl⟩) fun u s1 ⟨v, H1, I1, r1, q1⟩ => ?_)
    obtain ⟨rfl, rfl⟩ := q1
    obtain rfl : u = Value.ref a := r1
    obtain ⟨⟨pm0, ct0, g0⟩, _, _⟩ := I1.hok a _ h0
    refine PySem.W.callWith_F ⟨_, _, _, _, g0⟩ (thn (q.run pos pins s1 σ H1 _ I1 h) fun us s2 hh => ?_) he hpl
    obtain ⟨vs, H2, I2, rv, k1, k2, ds, L, S, rs, sto, post⟩ := hh
    obtain ⟨⟨pm, ctv, g1⟩, _, _⟩ := I2.hok a _ k1
    obtain ⟨cc, _, _⟩ := I2.hok d _ k2
    refine ⟨⟨_, _, _, _, g1⟩, ?_⟩
    by_cases hl : ds.length = pr.length
    · have hx : Passes (L2.CX X.prog X.w) X W.wish := passes_call tk fun _ _ _ _ h => h
      have hu : us.length = pr.length := by rw [← rv.length, rs.len]; exact hl
      refine wpAny_call (codeAny_mono (run_lam (CX := L2.CX X.prog X.w) (Q := Q) (N := N) (pr := pr) (E := W.wish) g1 cc Sc hr.rm I2.env0 (hb _ _ _ us hu) rv (rs.len.trans hl) fun hr' => ?_) fun z s' hq => ?_)
      · rw [hwd] at rs sto
        rw [hW, hwd] at post
        obtain ⟨tb, pb, rb⟩ := hbody d a X.A X.stack s2 H2 W.wish ⟨hr', hr.gd⟩
        refine ⟨tb, pb, rb (startD N.length ds) _ L H2 S _ (start_env rs) sto ?_⟩
        have pf := fnD_post (N := N) (ps := pr) leave_ok (rs.len.trans hl) rs sto post
        unfold sRet at pf
        cases eb : fe (startD N.length ds) S with
        | no => rw [eb] at pf; exact pf
        | exc y fs S1 => rw [eb] at pf; exact pf
        | ok d1 S1 =>
          rw [eb] at pf
          exact pf
      · match z, hq with
        | .error e, hq => exact hx pins σ H2 s2 e s' I2 hq
        | .ok (.ret u), hq => exact I2.after hq
    · rw [show lamD pr.length N.length fe ds S = .no from if_neg hl] at post
      exact (show False from post).elim
  · unfold eCallF at p
    cases e1 : ρ[i]? with
    | none => simp only [e1] at p; exact (show False from p).elim
    | some o =>
      cases o with
      | none => simp only [e1] at p; exact (show False from p).elim
      | some dd =>
        obtain ⟨v, h1, h2⟩ := er.2 i dd e1
        cases h2 with
        | @opq v o ho =>
          simp only [e1] at p
          cases e2 : tab o with
          | none => simp only [e2] at p; exact (show False from p).elim
          | some F =>
            simp only [e2] at p
            obtain ⟨q0, ps, bd, sc, N, pr, fe, rfl, _⟩ := ht o F e2
            obtain ⟨a, d, rfl, g1, g2, n1, n2⟩ := ho
            exact ⟨a, d, q0, ps, bd, sc, F, h1, e2, g1, r ρ σ L H S _ er st (p.step fun ds S1 L1 H1 ex s1 p1 vs rs => ⟨(ex.keep _ _ g1 noT_lam n1).1, (ex.keep _ _ g2 noT_code n2).1, ds, L1, S1, rs, s1, p1.wish⟩)⟩
        | _ => simp only [e1] at p; exact (show False from p).elim
end
/-! ### the lambda that stands in a def's last call -/
def lastLam : List Stmt → Option (Arguments × Expr × Scope)
  | [.Return (some (.Call _ [_, _, .Lambda ps bd sc _] _ _)) _] => some (ps, bd, sc)
  | _ :: r => lastLam r
  | [] => none
def lamQ (q : Str) (st : Stmt) : Opq := match lastLam (defBody st) with
  | some (ps, bd, sc) => .lam q ps bd sc
  | none => .exo q
def lamSc : Opq → Scope
  | .lam _ _ _ sc => sc
  | _ => default
def Opq.name : Opq → Str
  | .lam q _ _ _ => q
  | .exo x => x
  | .exm x _ _ => x
end Ls
/-! Ls4: errors made and kept as values. -/
namespace Ls
open PySem PySem.Spec PyProof.Rows L2
theorem exoD_ok {Pr : Program} {wo : World} {H : Hp} {h : Heap} {a C : Addr} {d : Option Addr} {oe : Obj} {vs : Array Value} (e : h.get? a = some oe) (z : Zc (.ref C) d oe) (f : oe.data = .fields vs) : ObjOk Pr wo H h a (ExoD C d a) :=
  ⟨⟨oe, vs, e, z.1, z.2, f⟩, ⟨oe, e⟩, fun _ _ ⟨o, v, q, r⟩ k => ⟨o, v, k o q, r⟩⟩
section
variable {X : Cx} {W : XW} {w : Wd} {e : Expr} {es : List Expr} {fa : SA} {p pos : Pos}
/-- what makes an error, as a value -/
theorem pe_made {tm : L2.St → Hp → XK → Prop} (he : PMk X e tm) : PE X e (fun σ H Q => tm σ H fun cls d H1 => ∃ C, cls = .ref C ∧ ∀ a, H1 a = none → Q (.ref a) (upd H1 a (ExoD C d a))) := by
  refine ⟨fun pins s σ H Q I h => wpAny_mono (he pins s σ H _ I h) (fun u s1 hu => ?_) fun _ _ z => z⟩
  obtain ⟨a, oe, vs, sI, H1, cls, d, rfl, J, keep, new, got, hz, hd, _, na, os, bare, _, C, rfl, q⟩ := hu
  have ne : ∀ b o, sI.heap.get? b = some o → b ≠ a := fun b o z y => by rw [y, new] at z; cases z
  have J2 := J.step (h' := s1.heap) (H' := upd H1 a (ExoD C d a)) (g' := s1.gens) (d' := s1.drawn) (t' := s1.toks) (ch := []) (fun b hb => (nomatch hb)) (fun b o _ _ _ z _ => keep b o z) (fun b o _ _ _ z _ => ⟨o.slots, keep b o z⟩)
    (fun b o _ z n => by rw [upd_ne (ne b o z)]; exact n) (fun b o _ z => ⟨o, keep b o z⟩) (fun b xs z => by rw [upd_ne (ne_of_none z na)]; exact z) (fun b o u z => by rw [upd_ne (ne_of_none z na)]; exact z) (fun b ps z => ⟨#[], by rw [upd_ne (ne_of_none z na), z]; simp⟩)
    (fun m hm => by
      obtain ⟨o, es, ep, ho, r⟩ := hm
      exact ⟨o, es, ep, keep _ _ ho, r⟩) (J.hok.laidN keep na (exoD_ok got hz hd)) bare
  refine ⟨.ref a, _, ?_, rfl, q a na⟩
  have : ({ sI with heap := s1.heap, gens := s1.gens, drawn := s1.drawn, toks := s1.toks } : Shared) = s1 := by
    obtain ⟨h1, g1, d1, t1, o1⟩ := s1
    simp only at os
    rw [os]
  rw [this] at J2
  exact J2
/-- x(e): an error of a class without names of its own -/
def eExo (x : Str) (f : SE) : SE := fun ρ S => (f ρ S).bind fun _ S1 => .ok (.opq (.exo x)) S1
theorem de_exo {x : Str} {C : Addr} {f : SE} (E : ErrT X.K X.mg x C) (he : DE X W e f) (hg : Gl X x := by rfl) (hs : starEach [e] X.env = (false, eval e X.env) :: starEach [] X.env := by rfl) (hdb : (x == ("__debug__" : Str)) = false := by decide) : DE X W (.Call (.Name x p) [e] [] pos) (eExo x f) := by
  obtain ⟨te, pe, re⟩ := he
  exact ⟨_, pe_exc1 PySem.F.excBase_ValueError E.q E.g E.k hg pe hs hdb, fun ρ σ L H S Q er st p => re ρ σ L H S _ er st (p.step fun d S1 L1 H1 e1 s1 p1 v rv a ha => p1.there (s1.ex ha) (s1.new ha) _ (.opq ⟨a, C, rfl, E.g, upd_same, s1.no ha⟩))⟩
/-- x(many, most) -/
def exm2 (x : Str) (S : Store) : D → D → Res D
  | .int m, .int n => .ok (.opq (.exm x m n)) S
  | _, _ => .no
def eExm (x : Str) (f : SA) : SE := fun ρ S => (f ρ S).bind fun ds S1 => match ds with
  | [a, b] => exm2 x S1 a b
  | _ => .no
theorem de_exm {x : Str} {C fI : Addr} {k : Nat} {fd : FuncData} (tk : Takes X fun cls d _ H => W.wish cls d H) (E : ErrM X.K X.mg x C) (iC : PySem.W.findIn X.K (.ref C) "__init__" = some (some (.ref fI))) (tI : PySem.W.typeIn X.K (.ref fI) = some (.type "function"))
    (F1 : FnOk X.prog X.w X.K X.mg X.base (L2.CX X.prog X.w) k fI fd ["self", "many", "most"] (spInit X.K)) (hr : Room (k + 1) X.A) (hb : Binds X.K fd ["self", "many", "most"] []) (ha : DA X W (e :: es) fa)
    (hg : Gl X x := by rfl) (hdb : (x == ("__debug__" : Str)) = false := by decide) (he : starEach (e :: es) X.env = (false, eval e X.env) :: starEach es X.env := by rfl) (hpl : (backTo pos (starEach es X.env)).any (·.1) = false := by rfl) :
    DE X W (.Call (.Name x p) (e :: es) [] pos) (eExm x fa) := by
  obtain ⟨t, q, r⟩ := ha
  have hx : Passes (L2.CX X.prog X.w) X (fun _ _ _ => False) := passes_call tk fun _ _ _ _ h => h.elim
  refine ⟨_, pe_made (pmk_oex E.o iC tI F1 hr hb .nil hx hg E.g q hdb he hpl), fun ρ σ L H S Q er st p => r ρ σ L H S _ er st (p.step fun ds S1 L1 H1 e1 s1 p1 vs rs => ?_)⟩
  match ds, rs, p1 with
  | [da, db], .cons (v := va) ra (.cons (v := vb) rb .nil), p1 =>
    replace p1 : Post (wd X W) W L1 H1 (QV (wd X W) Q) (exm2 x S1 da db) := p1
    cases ra <;> cases rb <;> first | exact (show False from p1).elim | skip
    rename_i m n
    refine ⟨by simp, fun a ha => ⟨a, C, .int m, .int n, rfl, E.o, E.m1, E.m2, upd_same, fun dx hdx hne => ⟨rfl, dx, [("most", .int n), ("many", .int m)], ?_, upd_same, ?_, ?_⟩⟩⟩
    · rw [upd_ne (Ne.symm hne)]
      exact upd_same
    · rw [← upd_ne (H := H1) (o := exo a C none) hne]
      exact hdx
    · have hdx1 : H1 dx = none := by rw [← upd_ne (H := H1) (o := exo a C none) hne]; exact hdx
      have hH : upd (del (upd (upd (upd (upd H1 a (exo a C none)) dx (exd dx [("many", .int m)])) a (exo a C (some dx))) dx (exd dx [("most", .int n), ("many", .int m)])) a) dx (.xd [("most", .int n), ("many", .int m)]) = upd H1 dx (.xd [("most", .int n), ("many", .int m)]) := by
        funext b
        by_cases h1 : b = dx
        · rw [h1, upd_same, upd_same]
        · rw [upd_ne h1, upd_ne h1]
          by_cases h2 : b = a
          · rw [h2, del_same, ha]
          · rw [del_ne h2, upd_ne h1, upd_ne h2, upd_ne h1, upd_ne h2]
      rw [hH]
      refine ⟨C, rfl, fun c hc => ?_⟩
      have ex1 := s1.ex (o := .xd [("most", .int n), ("many", .int m)]) hdx1
      have st1 := s1.new (o := .xd [("most", .int n), ("many", .int m)]) hdx1
      have nd : c ≠ dx := fun z => by rw [z, upd_same] at hc; cases hc
      exact (show Post (wd X W) W L1 H1 (QV (wd X W) Q) (.ok (.opq (.exm x m n)) S1) from p1).there (ex1.trans (st1.ex hc)) (st1.new hc) _ (.opq ⟨c, C, dx, rfl, E.g, upd_same, by rw [upd_ne (Ne.symm nd)]; exact upd_same, st1.no hc, s1.no hdx1⟩)
  | [], _, p1 => exact (show False from p1).elim
  | [_], _, p1 => exact (show False from p1).elim
  | _ :: _ :: _ :: _, _, p1 => exact (show False from p1).elim
/-! ### isinstance of an error that is a value -/
def excName : Opq → Option Str
  | .exo x => some x
  | .exm x _ _ => some x
  | .lam _ _ _ _ => none
def errN1 : List Str := "SwitchError" :: errNames
def isSub (x y : Str) : Bool := decide (x = y) || decide (y = "SwitchError")
structure ErvOk (K : PySem.W.Frag) (mg : Str → Option Value) : Prop where
  one : ∀ x y C D, x ∈ errN1 → y ∈ errN1 → mg x = some (.ref C) → mg y = some (.ref D) → PySem.W.kitOne K (.ref C) (.ref D) = some (isSub x y)
  ve : ∀ x C, x ∈ errN1 → mg x = some (.ref C) → PySem.W.kitOne K (.ref C) (.type "ValueError") = some true
  ec : ∀ x C, x ∈ errN1 → mg x = some (.ref C) → ExcC K C
theorem erv_mk {K : PySem.W.Frag} {mg : Str → Option Value} {CS : Addr} (er : ErrsOk K mg CS) (iS : PySem.W.isClsIn K CS = true) (tS : PySem.W.typeIn K (.ref CS) = some (.type "type")) (sS : PySem.W.subIn K (.ref CS) (.ref CS) = some true) (vS : PySem.W.subIn K (.ref CS) (.type "ValueError") = some true) (eS : ExcC K CS)
    (sx : ∀ x C, x ∈ errNames → mg x = some (.ref C) → PySem.W.subIn K (.ref C) (.ref C) = some true ∧ PySem.W.subIn K (.ref C) (.ref CS) = some true ∧ PySem.W.isClsIn K C = true ∧ PySem.W.typeIn K (.ref C) = some (.type "type") ∧ PySem.W.subIn K (.ref CS) (.ref C) = some false) : ErvOk K mg := by
  have inj : ∀ C, mg "SwitchError" = some (.ref C) → C = CS := fun C h => by rw [er.s] at h; cases h; rfl
  have nS : ∀ x, x ∈ errNames → x ≠ "SwitchError" := by decide +kernel
  refine ⟨fun x y C D hx hy hC hD => ?_, fun x C hx hC => ?_, fun x C hx hC => ?_⟩
  · rcases List.mem_cons.mp hx with rfl | hx
    · rw [inj C hC]
      rcases List.mem_cons.mp hy with rfl | hy
      · rw [inj D hD]
        have : isSub "SwitchError" "SwitchError" = true := by decide +kernel
        rw [this]
        exact kitOne_of iS tS sS sS
      · obtain ⟨_, _, h3, h4, h5⟩ := sx y D hy hD
        have : isSub "SwitchError" y = false := by
          unfold isSub
          rw [decide_eq_false (Ne.symm (nS y hy)), decide_eq_false (nS y hy)]
          rfl
        rw [this]
        exact kitOne_of h3 h4 h5 sS
    · obtain ⟨h1, h2, _, _, _⟩ := sx x C hx hC
      rcases List.mem_cons.mp hy with rfl | hy
      · rw [inj D hD]
        have : isSub x "SwitchError" = true := by
          unfold isSub
          rw [decide_eq_true (rfl : ("SwitchError" : Str) = "SwitchError"), Bool.or_true]
        rw [this]
        exact kitOne_of iS tS h2 h1
      · have : isSub x y = decide (x = y) := by
          unfold isSub
          rw [decide_eq_false (nS y hy), Bool.or_false]
        rw [this]
        exact (er.ix x hx C hC).1 y D hy hD
  · rcases List.mem_cons.mp hx with rfl | hx
    · rw [inj C hC]
      exact kitVE vS
    · exact (er.ix x hx C hC).2
  · rcases List.mem_cons.mp hx with rfl | hx
    · rw [inj C hC]
      exact eS
    · exact er.ec x C hx hC
def dIsV : List D → Store → Res D
  | [.opq k, .gl y], S => match excName k with
    | some x => if x ∈ errN1 ∧ y ∈ errN1 then .ok (.bl (isSub x y)) S else .no
    | none => .no
  | [.opq k, .ty t], S => match excName k with
    | some x => if x ∈ errN1 ∧ t = "ValueError" then .ok (.bl true) S else .no
    | none => .no
  | _, _ => .no
/-- at a stands an error of the class C -/
def ExAt (H : Hp) (a C : Addr) (od : Option Addr) : Prop := (od = none ∧ H a = some (ExO (.ref C) a)) ∨ (∃ d fs, od = some d ∧ H a = some (ExoD C od a) ∧ H d = some (.xd fs))
theorem ExAt.inst {P : Program} {w : World} {H : Hp} {h : Heap} {a C : Addr} {od : Option Addr} (x : ExAt H a C od) (hok : HOk P w H h) : ∃ (oe : Obj) (odo : Option Obj), PySem.W.InstAt h a oe C odo ∧ (∃ vs, oe.data = .fields vs) ∧ oe.dict = od := by
  rcases x with ⟨rfl, ha⟩ | ⟨d, fs, rfl, ha, hd⟩
  · obtain ⟨⟨oe, vs, g, z, f, _⟩, _, _⟩ := hok a _ ha
    obtain ⟨odo, J⟩ := inst_at g z ⟨vs, f⟩ hok (fun d e => nomatch e)
    exact ⟨oe, odo, J, ⟨vs, f⟩, z.2⟩
  · obtain ⟨⟨oe, vs, g, z1, z2, f⟩, _, _⟩ := hok a _ ha
    obtain ⟨odo, J⟩ := inst_at (od := some d) g ⟨z1, z2⟩ ⟨vs, f⟩ hok (fun d' e => by cases e; exact ⟨fs, hd⟩)
    exact ⟨oe, odo, J, ⟨vs, f⟩, z2⟩
def rIsV (K : PySem.W.Frag) : List V → Hp → VK → Prop := fun xs H Q => ∃ (a C : Addr) (od : Option Addr) (c : V) (cv : Value) (b : Bool), xs = [.ref a, c] ∧ ExAt H a C od ∧ ExcC K C ∧ (∀ u, RelV c u → u = cv) ∧ PySem.W.kitOne K (.ref C) cv = some b ∧ Q (.bl b) H
theorem call_isV : CallR X (.builtin "isinstance") (rIsV X.K) := by
  intro pins s σ H xs us Q I r h
  obtain ⟨a, C, od, c, cv, b, rfl, at_, EC, hcv, e, q⟩ := h
  cases r with
  | cons rx rr =>
    cases rr with
    | cons rt rr =>
      cases rr
      cases rx
      have ec := hcv _ rt
      subst ec
      obtain ⟨oe, odo, J, _, _⟩ := at_.inst I.hok
      have hcl : (PySem.W.clsIn X.K C).isSome = true := by
        obtain ⟨cd, hc, _⟩ := PySem.W.any_some EC.hd
        rw [hc]
        rfl
      exact PySem.W.kia_one (PySem.W.kitx_exc hcl EC.hg EC.hk EC.hs EC.ha EC.hn EC.ht EC.hm) I.kIn J e (fun z => nomatch z) fun tk => ⟨.bl b, H, I.kept (t' := tk) fun _ _ z => z, rfl, q⟩
theorem opq_at {w : Wd} {L : Ly} {H : Hp} {v : V} {k : Opq} {x : Str} (r : OpqR w L H v k) (e : excName k = some x) : ∃ a C od, v = .ref a ∧ w.mg x = some (.ref C) ∧ ExAt H a C od := by
  cases k with
  | lam => cases e
  | exo y =>
    cases e
    obtain ⟨a, C, h1, h2, h3, _⟩ := r
    exact ⟨a, C, none, h1, h2, .inl ⟨rfl, h3⟩⟩
  | exm y m n =>
    cases e
    obtain ⟨a, C, d, h1, h2, h3, h4, _⟩ := r
    exact ⟨a, C, some d, h1, h2, .inr ⟨d, _, rfl, h3, h4⟩⟩
theorem cd_isV (E : ErvOk w.K w.mg) : CallD w (rIsV w.K) dIsV := by
  intro W L H S vs ds Q st r p
  match ds, r, p with
  | [.opq k, .gl y], .cons (v := v) r1 (.cons (v := u) r2 .nil), p =>
    cases r1 with
    | opq h1 =>
      cases r2 with
      | @gl b _ h2 =>
        replace p : Post w W L H (QV w Q) (match excName k with
          | some x => if x ∈ errN1 ∧ y ∈ errN1 then .ok (.bl (isSub x y)) S else .no
          | none => .no) := p
        cases e : excName k with
        | none => simp only [e] at p; exact (show False from p).elim
        | some x =>
          simp only [e] at p
          by_cases hy : x ∈ errN1 ∧ y ∈ errN1
          · rw [if_pos hy] at p
            obtain ⟨a, C, od, rfl, hm, at_⟩ := opq_at h1 e
            exact ⟨a, C, od, .ref b, .ref b, _, rfl, at_, E.ec x C hy.1 hm, fun u hu => hu, E.one x y C b hy.1 hy.2 hm h2, p.here st _ (.bl _)⟩
          · rw [if_neg hy] at p
            exact p.elim
  | [.opq k, .ty t], .cons (v := v) r1 (.cons (v := u) r2 .nil), p =>
    cases r1 with
    | opq h1 =>
      cases r2 with
      | ty _ =>
        replace p : Post w W L H (QV w Q) (match excName k with
          | some x => if x ∈ errN1 ∧ t = "ValueError" then .ok (.bl true) S else .no
          | none => .no) := p
        cases e : excName k with
        | none => simp only [e] at p; exact (show False from p).elim
        | some x =>
          simp only [e] at p
          by_cases hy : x ∈ errN1 ∧ t = "ValueError"
          · rw [if_pos hy] at p
            obtain ⟨a, C, od, rfl, hm, at_⟩ := opq_at h1 e
            obtain ⟨hx, rfl⟩ := hy
            exact ⟨a, C, od, .ty "ValueError", .type "ValueError", _, rfl, at_, E.ec x C hx hm, fun u hu => hu, E.ve x C hx hm, p.here st _ (.bl _)⟩
          · rw [if_neg hy] at p
            exact p.elim
theorem de_isV (E : ErvOk X.K X.mg) (hm : X.mg "isinstance" = none) (ha : DA X W (e :: es) fa) (hg : Gl X "isinstance" := by rfl) (he : starEach (e :: es) X.env = (false, eval e X.env) :: starEach es X.env := by rfl) (hpl : (backTo pos (starEach es X.env)).any (·.1) = false := by rfl) :
    DE X W (.Call (.Name "isinstance" p) (e :: es) [] pos) (eCB dIsV fa) := de_callB call_isV (cd_isV (w := wd X W) E) hm (by decide +kernel) ha hg (by decide) (by decide) he hpl
/-! ### its numbers -/
def eFldV (n : Str) (fe : SE) : SE := fun ρ S => (fe ρ S).bind fun d S1 => match d with
  | .opq (.exm x i j) => if x = "TooMany" then (if n = "many" then .ok (.int i) S1 else if n = "most" then .ok (.int j) S1 else .no) else .no
  | _ => .no
theorem de_fldV {n : Str} {fe : SE} (E : ErvOk X.K X.mg) (hno : ∀ D, X.mg "TooMany" = some (.ref D) → PySem.W.findIn X.K (.ref D) n = some none) (he : DE X W e fe) (hb : attributeBase e n X.env (eval e X.env) = eval e X.env := by rfl) : DE X W (.Attribute e n pos) (eFldV n fe) := by
  obtain ⟨t, q, r⟩ := he
  refine ⟨fun σ H Q => t σ H fun x H1 => ∃ (a C dd : Addr) (i j k : Int), x = .ref a ∧ X.mg "TooMany" = some (.ref C) ∧ H1 a = some (ExoD C (some dd) a) ∧ H1 dd = some (.xd [("most", .int j), ("many", .int i)]) ∧ ([("most", V.int j), ("many", V.int i)] : List (Str × V)).lookup n = some (.int k) ∧ Q (.int k) H1, ⟨fun pins s σ H Q I h => ?_⟩, fun ρ σ L H S Q er st p => r ρ σ L H S _ er st (p.step fun d S1 L1 H1 e1 s1 p1 v rv => ?_)⟩
  · refine attr_of hb (thn (q.run pins s σ H _ I h) fun u s1 hh => ?_)
    obtain ⟨x, H1, I1, rx, a, C, dd, i, j, k, ex, hm, ha, hd, lk, qq⟩ := hh
    subst ex
    obtain rfl : u = Value.ref a := rx
    obtain ⟨⟨oe, vs, g, z1, z2, f⟩, _, _⟩ := I1.hok a _ ha
    obtain ⟨mA, hns, hr⟩ : ObjOk X.prog X.w H1 s1.heap dd (.xd [("most", .int j), ("many", .int i)]) := I1.hok dd _ hd
    obtain ⟨odo, ho, hl⟩ := lookIn_ns hns
    obtain ⟨u, hu, ru⟩ := RelO.some_of (v := .int k) (o := mA n) (by rw [← lk]; exact hr n)
    have J : PySem.W.InstAt s1.heap a oe C (some odo) := ⟨g, z1, by unfold PySem.W.notCls; rw [f] <;> rfl, by rw [z2]; exact ho⟩
    have EC := E.ec "TooMany" C (by decide) hm
    exact HandSPX.exc_get I1.kIn J EC.hg EC.hk EC.hs (PySem.W.findObj_own EC.hd (hno C hm) rfl (by rw [hl, hu])) (handed_of ru) ⟨.int k, H1, I1.tok _, ru, qq⟩
  · cases rv with
    | @opq v k h =>
      cases k with
      | exm x i j =>
        obtain ⟨a, C, d, rfl, hm, h3, h4, _, _⟩ := h
        replace p1 : Post (wd X W) W L1 H1 (QV (wd X W) Q) (if x = "TooMany" then (if n = "many" then .ok (.int i) S1 else if n = "most" then .ok (.int j) S1 else .no) else .no) := p1
        by_cases hx : x = "TooMany"
        · rw [if_pos hx] at p1
          subst hx
          by_cases h1 : n = "many"
          · rw [if_pos h1] at p1
            subst h1
            exact ⟨a, C, d, i, j, i, rfl, hm, h3, h4, by rfl, p1.here s1 _ (.int _)⟩
          · rw [if_neg h1] at p1
            by_cases h2 : n = "most"
            · rw [if_pos h2] at p1
              subst h2
              exact ⟨a, C, d, i, j, j, rfl, hm, h3, h4, by rfl, p1.here s1 _ (.int _)⟩
            · rw [if_neg h2] at p1
              exact p1.elim
        · rw [if_neg hx] at p1
          exact p1.elim
      | _ => exact (show False from p1).elim
    | _ => exact (show False from p1).elim
/-! ### a truth among truths -/
def blsOf : List D → Option (List Bool)
  | [] => some []
  | .bl b :: r => (blsOf r).map (b :: ·)
  | _ => none
theorem blsOf_rep {L : Ly} {H : Hp} : ∀ {ds : List D} {bs : List Bool} {vs : List V}, blsOf ds = some bs → RepL w L H vs ds → vs = bs.map V.bl
  | [], bs, vs, h, r => by
    cases h
    cases r
    rfl
  | d :: ds, bs, _, h, .cons rh rt => by
    cases rh with
    | bl b =>
      obtain ⟨cs, h2, rfl⟩ := Option.map_eq_some_iff.mp (show (blsOf ds).map (b :: ·) = some bs from h)
      rw [blsOf_rep h2 rt]
      rfl
    | _ => exact nomatch h
theorem inV_bls (b : Bool) (bs : List Bool) : inV (.bl b) (bs.map V.bl) = decide (b ∈ bs) := by
  unfold inV
  induction bs with
  | nil => rfl
  | cons c r ih =>
    rw [List.map_cons, List.any_cons, ih]
    cases b <;> cases c <;> simp [eqV]
theorem flat_bls (bs : List Bool) : (bs.map V.bl).all flatV = true := by
  induction bs with
  | nil => rfl
  | cons c r ih => rw [List.map_cons, List.all_cons, ih]; rfl
def dInB : D → D → Store → Res D
  | .bl b, d, S => match items S d with
    | some xs => match blsOf xs with
      | some bs => .ok (.bl (decide (b ∈ bs))) S
      | none => .no
    | none => .no
  | _, _, _ => .no
theorem od_inB : OpD w (rIn w.K false) dInB := by
  intro W L H S x y a b Q st rx ry p
  cases rx with
  | bl i =>
    replace p : Post w W L H (QV w Q) (match items S b with
      | some xs => match blsOf xs with
        | some bs => .ok (.bl (decide (i ∈ bs))) S
        | none => .no
      | none => .no) := p
    cases e1 : items S b with
    | none => simp only [e1] at p; exact (show False from p).elim
    | some xs =>
      simp only [e1] at p
      cases e2 : blsOf xs with
      | none => simp only [e2] at p; exact (show False from p).elim
      | some bs =>
        simp only [e2] at p
        obtain ⟨c, us, rfl, ru, q⟩ := items_ok e1 st ry
        have e3 := blsOf_rep e2 ru
        subst e3
        refine ⟨c, _, rfl, q, rfl, flat_bls bs, ?_⟩
        rw [inV_bls]
        exact p.here st _ (.bl _)
  | _ => exact (show False from by cases b <;> exact p).elim
theorem dt_inB {a b : Expr} {sa sb : SE} (ha : DE X W a sa) (hb : DE X W b sb) (hm : behindInMarks .In b = false := by rfl) : DT X W (.Compare a [.In] [b] pos) (tOfE (eOp dInB sa sb)) := dt_cmp op_in_seq od_inB ha hb hm
end
end Ls
/-! LsZ: a law's end. -/
namespace Ls
open PySem PySem.Spec PyProof.Rows L2
theorem law_end {w : Wd} {F : List D → Store → Res D} {ns : List Int} {H : Hp} {a : Addr} (h : ∃ S, F [.scr ns] [] = .ok (.bl true) S) (hS : SqL w.K H a (ns.map V.int)) (ht : LamX.Tabs w.T H) :
    spF w 1 F [.ref a] H (fun v _ => v = .bl true) fun _ _ _ => False := by
  obtain ⟨S, e⟩ := h
  refine ⟨rfl, [.scr ns], ⟨[], []⟩, [], .cons (.scr ?_) .nil, ⟨rfl, by simp, fun n o b h1 _ => by simp at h1, fun b hb => (nomatch hb), fun b hb => (nomatch hb), ht⟩, ?_⟩
  · have na : a ∉ (⟨[], []⟩ : Ly) := fun z => by
      rcases z with z | z
      · exact nomatch z
      · exact nomatch z
    rcases hS with q | q
    · exact .inl ⟨q, na⟩
    · exact .inr (.inr q)
  · rw [e]
    intro L' H' _ _ v r
    cases r
    rfl
theorem noX {P : Program} {w : World} {H : Hp} {s s' : Shared} {e : Value} (h : L2.CX P w [] H s (fun _ _ _ => False) e s') : False := by
  obtain ⟨_, _, _, _, _, _, _, _, _, _, _, _, z⟩ := h
  exact z
/-! ### the script and the tables of code objects as the tracked heap -/
section
variable {P : Program} {w : World} {K : PySem.W.Frag} {mg mb : Str → Option Value} {k : Nat} {fa a : Addr} {cs : List (Addr × Addr)} {fd : FuncData} {x : Str} {sp : Sp} {s₁ : Shared} {vs : List Value} {ns : List Int}
/-- what the head's end tells -/
structure Hd (K : PySem.W.Frag) (mg mb : Str → Option Value) (cs : List (Addr × Addr)) (a : Addr) (vs : List Value) (ns : List Int) (s₁ : Shared) : Prop where
  KX : K.In s₁.heap
  hns : s₁.heap.Ns mainGlobals mg
  hb : s₁.heap.Ns builtinsNs mb
  hbb : ∀ x : Str, x ≠ "__name__" → mb x = bootBuiltins x
  hlim : s₁.heap.NoLimit
  hg : s₁.gens = #[]
  hT : ∀ p, p ∈ cs → s₁.heap.get? p.2 = some { cls := .none, data := .fields #[] }
  nT : ∀ p, p ∈ cs → K.lookup p.2 = none
  hC : ∀ p, p ∈ cs → PySem.W.CodeHd s₁.heap p.1 p.2
  hbm : ∃ (bm : Addr) (ob : Obj), mg "__builtins__" = some (.ref bm) ∧ bm ≠ builtinsNs ∧ s₁.heap.get? bm = some ob ∧ ob.cls = .type "module" ∧ ob.dict = some builtinsNs ∧ ob.data = .plain
  ha : s₁.heap.get? a = some { cls := .type "list", data := .seq vs.toArray }
  hi : IntsAre vs ns
  hl : ns.length ≤ sizeLine
/-- what is tracked: the tables, and the script where it is not written -/
structure Trk (K : PySem.W.Frag) (cs : List (Addr × Addr)) (a : Addr) (ns : List Int) (H : Hp) : Prop where
  tab : ∀ p, p ∈ cs → H p.2 = some (.tbl #[])
  only : ∀ b, H b = none ∨ b ∈ cs.map (·.2) ∨ (b = a ∧ K.lookup a = none ∧ ∃ o xs, H b = some (.frz o (.lst xs)))
  seq : SqL K H a (ns.map V.int)
variable (h : Hd K mg mb cs a vs ns s₁)
include h
theorem Hd.isT {b : Addr} (hb : b ∈ cs.map (·.2)) : s₁.heap.get? b = some { cls := .none, data := .fields #[] } := by
  obtain ⟨p, hp, rfl⟩ := List.mem_map.mp hb
  exact h.hT p hp
theorem Hd.aT : a ∉ cs.map (·.2) := fun z => by
  have q := (h.isT z).symm.trans h.ha
  cases q
theorem Hd.trk : ∃ H, Trk K cs a ns H ∧ HOk P w H s₁.heap := by
  classical
  have rv := vals_ints h.hi
  have lv := h.hi.length
  have tabOk : ∀ (G : Hp) (b : Addr), b ∈ cs.map (·.2) → ObjOk P w G s₁.heap b (.tbl #[]) := fun G b hb => h.isT hb
  cases hk : K.lookup a with
  | some o =>
    have e := (h.KX a o hk).symm.trans h.ha
    cases e
    refine ⟨fun b => if b ∈ cs.map (·.2) then some (.tbl #[]) else none, ⟨fun p hp => if_pos (List.mem_map.mpr ⟨p, hp, rfl⟩), fun b => ?_, .inr ⟨_, vs.toArray, _, hk, rfl, rfl, rfl, by simpa [lv] using h.hl, by simpa using rv⟩⟩, fun b u z => ?_⟩
    · by_cases q : b ∈ cs.map (·.2)
      · exact .inr (.inl q)
      · exact .inl (if_neg q)
    · dsimp only at z
      by_cases q : b ∈ cs.map (·.2)
      · rw [if_pos q] at z
        cases z
        exact tabOk _ b q
      · rw [if_neg q] at z
        cases z
  | none =>
    refine ⟨fun b => if b = a then some (.frz { cls := .type "list", data := .seq vs.toArray } (.lst (ns.map V.int))) else if b ∈ cs.map (·.2) then some (.tbl #[]) else none, ⟨fun p hp => ?_, fun b => ?_, .inl (.inr ⟨_, if_pos rfl⟩)⟩, fun b u z => ?_⟩
    · have m : p.2 ∈ cs.map (·.2) := List.mem_map.mpr ⟨p, hp, rfl⟩
      have q : p.2 ≠ a := fun q => h.aT (q ▸ m)
      rw [if_neg q, if_pos m]
    · by_cases q : b = a
      · exact .inr (.inr ⟨q, hk, _, _, if_pos q⟩)
      · by_cases q2 : b ∈ cs.map (·.2)
        · exact .inr (.inl q2)
        · exact .inl ((if_neg q).trans (if_neg q2))
    · dsimp only at z
      by_cases q : b = a
      · rw [if_pos q] at z
        cases z
        rw [q]
        exact ⟨h.ha, by rw [List.length_map]; exact h.hl, vs, _, rv, h.ha⟩
      · rw [if_neg q] at z
        by_cases q2 : b ∈ cs.map (·.2)
        · rw [if_pos q2] at z
          cases z
          exact tabOk _ b q2
        · rw [if_neg q2] at z
          cases z
theorem Hd.free {H : Hp} (t : Trk K cs a ns H) {b : Addr} {o : Obj} (e : s₁.heap.get? b = some o) (n1 : ∀ us n, o.data ≠ .seq us n) (n2 : o.data ≠ .fields #[]) : H b = none := by
  rcases t.only b with z | z | ⟨z, _⟩
  · exact z
  · rw [h.isT z] at e
    cases e
    exact (n2 rfl).elim
  · rw [z, h.ha] at e
    cases e
    exact (n1 _ _ rfl).elim
theorem Hd.env {H : Hp} (t : Trk K cs a ns H) (hok : HOk P w H s₁.heap) : ∃ base, K.In base ∧ base.Ns mainGlobals mg ∧ (∀ p, p ∈ cs → LamX.TabB base mg p.1 p.2) ∧ Env0 P w K mg base callerA [] s₁ H := by
  have put : ∀ {b : Addr} {o : Obj}, s₁.heap.get? b = some o → H b = none → (hidT s₁.heap H).get? b = some o := fun e n => hidT_get e n
  have nsK : ∀ {b : Addr} {m : Str → Option Value}, s₁.heap.Ns b m → (hidT s₁.heap H).Ns b m := fun {b m} q => by
    obtain ⟨o, es, ep, e, d, r⟩ := q
    refine ⟨o, es, ep, put e (h.free t e (fun us n z => ?_) fun z => ?_), d, r⟩
    · rw [d] at z; cases z
    · rw [d] at z; cases z
  have kin : K.In (hidT s₁.heap H) := fun b o e => put (h.KX b o e) (by
    rcases t.only b with z | z | ⟨z, hk, _⟩
    · exact z
    · obtain ⟨p, hp, rfl⟩ := List.mem_map.mp z
      rw [h.nT p hp] at e
      cases e
    · rw [z, hk] at e
      cases e)
  obtain ⟨mc, l1, l2⟩ := h.hlim
  refine ⟨hidT s₁.heap H, kin, nsK h.hns, fun p hp => ?_, rfl, ⟨kin, nsK h.hns, ⟨mb, nsK h.hb, h.hbb⟩, ⟨mc, nsK l1, l2⟩⟩, fun b o e => of_hidT e, Nat.le_of_eq (hidT_size _ _), trivial, fun b hb => (nomatch hb), hok, .of_eq h.hg⟩
  have hTp := h.hT p hp
  refine ⟨?_, ?_, fun z => ?_⟩
  · obtain ⟨o, us, file, tf, flags, tg, inF, text, tt, e1, r1, r2, r3, r4⟩ := h.hC p hp
    refine ⟨o, us, file, tf, flags, tg, inF, text, tt, put e1 (h.free t e1 (fun us' n z => ?_) fun z => ?_), r1, r2, r3, r4⟩
    · rw [r2] at z; cases z
    · rw [r2] at z
      cases z
      simp at r3
  · obtain ⟨bm, ob, b1, b2, b3, b4, b5, b6⟩ := h.hbm
    refine ⟨bm, ob, b1, b2, fun q => ?_, fun q => ?_, put b3 (h.free t b3 (fun us n z => ?_) fun z => ?_), b4, b5, b6⟩
    · obtain ⟨o, es, ep, e, hd, _⟩ := h.hns
      rw [q, e] at b3
      cases b3
      rw [hd] at b6
      cases b6
    · rw [q, hTp] at b3
      cases b3
      cases b6
    · rw [b6] at z; cases z
    · rw [b6] at z; cases z
  · obtain ⟨o, es, ep, e, hd, _⟩ := h.hns
    rw [z, hTp] at e
    cases e
    cases hd
/-- the law's call -/
theorem Hd.call (hr : Room k callerA) (F : ∀ base : Heap, K.In base → base.Ns mainGlobals mg → (∀ p, p ∈ cs → LamX.TabB base mg p.1 p.2) → FnG P w K mg base (L2.CX P w) k fa fd [x] sp) (hbind : ∀ (s : Shared) (u : Value), BindsTo s fd ⟨[u], []⟩ [(x, u)])
    (hsp : ∀ H : Hp, (∀ p, p ∈ cs → H p.2 = some (.tbl #[])) → SqL K H a (ns.map V.int) → sp [.ref a] H (fun v _ => v = .bl true) fun _ _ _ => False) :
    codeAny (model P w) callerA (.call (.ref fa) ⟨[.ref a], []⟩) (fun r s' => r = .ok (.ret (.bool true)) ∧ OldK s₁.heap s'.heap ∧ s'.os = s₁.os ∧ AllBare s'.gens) s₁ := by
  obtain ⟨H, t, hok⟩ := h.trk (P := P) (w := w)
  obtain ⟨base, kin, hns, tb, e0⟩ := h.env t hok
  refine codeAny_mono ((F base kin hns tb).go callerA [] s₁ H ⟨[.ref a], []⟩ [.ref a] [.ref a] _ _ ⟨hr, fun _ => rfl⟩ e0 (hbind s₁ (.ref a)) (.cons rfl .nil) (hsp H t.tab t.seq)) fun r s' q => ?_
  match r, q with
  | .error e, q => exact (noX q).elim
  | .ok (.ret u), q =>
    obtain ⟨v, H', os, bare, un, hok', rv, qv⟩ := q
    replace qv : v = .bl true := qv
    subst qv
    obtain rfl : u = Value.bool true := rv
    have same : ∀ b o, b ∉ cs.map (·.2) → s₁.heap.get? b = some o → s'.heap.get? b = some o := fun b o nb e => by
      rcases t.only b with z | z | ⟨_, _, ob, xs, z⟩
      · exact un.keep b o e z (fun z => (nomatch z)) (by simp)
      · exact absurd z nb
      · have z1 := (hok b _ z).1
        have z2 := (hok' b _ (un.frzs b ob _ z)).1
        rw [e] at z1
        cases z1
        exact z2
    have grown : ∀ p, p ∈ cs → ∃ more : Array Value, s'.heap.get? p.2 = some { cls := .none, data := .fields more } := fun p hp => by
      obtain ⟨more, z⟩ := un.tbls p.2 #[] (t.tab p hp)
      exact ⟨_, hok' p.2 _ z⟩
    refine ⟨rfl, ⟨fun b o e => ?_, fun b o e => ?_⟩, os, bare⟩
    · by_cases q : b ∈ cs.map (·.2)
      · obtain ⟨p, hp, rfl⟩ := List.mem_map.mp q
        obtain ⟨more, hm⟩ := grown p hp
        rw [h.hT p hp] at e
        cases e
        exact .inr (.inl ⟨((h.hC p hp).tab (h.hT p hp)).isCodeTable, rfl, #[], more, rfl, by simpa using hm⟩)
      · exact .inl (same b o q e)
    · by_cases q : b ∈ cs.map (·.2)
      · obtain ⟨p, hp, rfl⟩ := List.mem_map.mp q
        obtain ⟨more, hm⟩ := grown p hp
        exact ⟨_, hm⟩
      · exact ⟨o, same b o q e⟩
end
/-- what is known of the law's promise at the head's heap -/
def LawG (l : PySem.W.OpenLaw) (w : World) (K : PySem.W.Frag) (k n : Nat) (x : Str) (mg : Str → Option Value) (fa : Addr) (h : Heap) : Prop :=
  ∃ (fd : FuncData) (cs : List (Addr × Addr)) (sp : Sp), (∀ p, p ∈ cs → h.get? p.2 = some { cls := .none, data := .fields #[] }) ∧ (∀ p, p ∈ cs → K.lookup p.2 = none) ∧ (∀ p, p ∈ cs → PySem.W.CodeHd h p.1 p.2) ∧ (∀ (s : Shared) (u : Value), BindsTo s fd ⟨[u], []⟩ [(x, u)]) ∧
    (∀ (H : Hp) (a : Addr) (ns : List Int), ns.length ≤ n → (∀ z, z ∈ ns → Builtin.Int.intBits z ≤ 1048576) → (∀ p, p ∈ cs → H p.2 = some (.tbl #[])) → SqL K H a (ns.map V.int) → sp [.ref a] H (fun v _ => v = .bl true) fun _ _ _ => False) ∧
    ∀ base : Heap, K.In base → base.Ns mainGlobals mg → (∀ p, p ∈ cs → LamX.TabB base mg p.1 p.2) → FnG l.prog w K mg base (L2.CX l.prog w) k fa fd [x] sp
theorem tabIn_of {K : PySem.W.Frag} {x : Str} {f c P : Addr} {oc e : Value} {od dd : Option Addr} {fd : FuncData} {sl s2 : Array (Option Value)} {vs : Array Value} (a : PySem.W.nsIn K mainGlobals x = some (some (.ref f))) (l : K.lookup f = some ⟨oc, od, .func fd, sl⟩) (hc : fd.code = .ref c) (lc : K.lookup c = some ⟨e, dd, .fields vs, s2⟩) (hv : vs[11]? = some (.ref P)) : PySem.W.tabIn K x = some (c, P) := by
  unfold PySem.W.tabIn
  simp only [a, l, hc, lc, hv]
theorem walk_G {l : PySem.W.OpenLaw} {n k : Nat} {q : Program} {loose : List Str} {XP : (Str → Option Value) → Heap → Prop} {YP : World → Heap → Prop} {d : DefRec} {K : Params → PySem.W.Frag} {x : Str}
    (hn : l.most = some n) (hn2 : n ≤ sizeLine) (hdf : d.params.defaults = []) (hr : Room k callerA) (hrec : ((recsOf q).any fun e => e.name == d.name) = true) (hY : ∀ (w : World) (h : Heap), YP w h → (K w.params).In h)
    (F : ∀ (w : World) (mg : Str → Option Value) (fa : Addr) (h : Heap), YP w h → (K w.params).In h → h.Ns mainGlobals mg → mg d.name = some (.ref fa) → (∀ c P, PySem.W.tabIn (K w.params) d.name = some (c, P) → PySem.W.CodeHd h c P ∧ h.get? P = some (PySem.W.tabObj #[])) → LawG l w (K w.params) k n x mg fa h) :
    PySem.W.WalkO q loose XP YP l.row.toRowW d [] (fun f vs => PySem.call f vs) := by
  refine Att.attach_callB hn hdf fun w s₀ s₁ mg mb fa o pm cd doc a vs ns G Y ho hd hcd hmg hobj hints hlen hbits hg => ?_
  have KX := hY w _ Y
  have own : ∀ c P, PySem.W.tabIn (K w.params) d.name = some (c, P) → PySem.W.CodeHd s₁.heap c P ∧ s₁.heap.get? P = some (PySem.W.tabObj #[]) := fun c P ht => by
    obtain ⟨d0, hm, hn1⟩ := List.any_eq_true.mp hrec
    cases e : (recsOf q).find? (fun e => e.name == d.name) with
    | none => exact absurd hn1 (by simpa using List.find?_eq_none.mp e d0 hm)
    | some d1 => exact PySem.W.tab_of G.T KX e ht
  obtain ⟨fd, cs, sp, hT, nT, C, hb, hsp, hF⟩ := F w mg fa _ Y KX G.T.g hmg own
  exact Hd.call (h := ⟨KX, G.T.g, G.T.b, G.T.builtins, G.T.nolimit, hg, hT, nT, C, G.T.bmain, hobj, hints, Nat.le_trans hlen hn2⟩) hr hF hb fun H hH hS => hsp H a ns hlen hbits hH hS
theorem walk_G2 {l : PySem.W.OpenLaw} {n k : Nat} {q : Program} {loose : List Str} {XP : (Str → Option Value) → Heap → Prop} {YP : World → Heap → Prop} {d : DefRec} {K : Params → PySem.W.Frag} {x : Str}
    (hn : l.most = some n) (hn2 : n ≤ sizeLine) (hdf : d.params.defaults = []) (hr : Room k callerA) (hrec : ((recsOf q).any fun e => e.name == d.name) = true) (hY : ∀ (w : World) (h : Heap), YP w h → (K w.params).In h)
    (F : ∀ (w : World) (mg : Str → Option Value) (fa : Addr) (h : Heap), YP w h → (K w.params).In h → h.Ns mainGlobals mg → mg d.name = some (.ref fa) → (∀ y c P, ((recsOf q).any fun e => e.name == y) = true → PySem.W.tabIn (K w.params) y = some (c, P) → PySem.W.CodeHd h c P ∧ h.get? P = some (PySem.W.tabObj #[])) → LawG l w (K w.params) k n x mg fa h) :
    PySem.W.WalkO q loose XP YP l.row.toRowW d [] (fun f vs => PySem.call f vs) := by
  refine Att.attach_callB hn hdf fun w s₀ s₁ mg mb fa o pm cd doc a vs ns G Y ho hd hcd hmg hobj hints hlen hbits hg => ?_
  have KX := hY w _ Y
  have own : ∀ y c P, ((recsOf q).any fun e => e.name == y) = true → PySem.W.tabIn (K w.params) y = some (c, P) → PySem.W.CodeHd s₁.heap c P ∧ s₁.heap.get? P = some (PySem.W.tabObj #[]) := fun y c P hy ht => by
    obtain ⟨d0, hm, hn1⟩ := List.any_eq_true.mp hy
    cases e : (recsOf q).find? (fun e => e.name == y) with
    | none => exact absurd hn1 (by simpa using List.find?_eq_none.mp e d0 hm)
    | some d1 => exact PySem.W.tab_of G.T KX e ht
  obtain ⟨fd, cs, sp, hT, nT, C, hb, hsp, hF⟩ := F w mg fa _ Y KX G.T.g hmg own
  exact Hd.call (h := ⟨KX, G.T.g, G.T.b, G.T.builtins, G.T.nolimit, hg, hT, nT, C, G.T.bmain, hobj, hints, Nat.le_trans hlen hn2⟩) hr hF hb fun H hH hS => hsp H a ns hlen hbits hH hS
/-- tables that stand apart -/
theorem uniqT : ∀ {T : Tb}, (T.map (·.1)).Nodup → ∀ p q, p ∈ T → q ∈ T → p.1 = q.1 → p.2 = q.2
  | [], _, _, _, h, _, _ => nomatch h
  | x :: r, nd, p, q, hp, hq, e => by
    rw [List.map_cons, List.nodup_cons] at nd
    rcases List.mem_cons.mp hp with ep | hp
    · rcases List.mem_cons.mp hq with eq | hq
      · rw [ep, eq]
      · exact absurd (List.mem_map.mpr ⟨q, hq, by rw [← e, ep]⟩) nd.1
    · rcases List.mem_cons.mp hq with eq | hq
      · exact absurd (List.mem_map.mpr ⟨p, hp, by rw [e, eq]⟩) nd.1
      · exact uniqT nd.2 p q hp hq e
end Ls
namespace Ls
open PySem PySem.Spec PyProof.Rows L2
noncomputable def F__law_cell : List D → Store → Res D := fnD 2 2 leave (sSeq (sIf (tOfE (eOp dLt (eVar 1) (eCB dLen (aCons (eVar 0) aNil)))) (sRet (eOp dIx (eVar 0) (eVar 1))) sNext)
 (sRet (eOp dAdd (eOp dMul (eC (.int 6151)) (eVar 1)) (eC (.int 29)))))
noncomputable def F__law_mix : List D → Store → Res D := fnD 2 3 leave (sSeq (sAsg (.one 2) (eOp dAdd (eOp dMul (eOp dAdd (eVar 0) (eC (.int 1))) (eC (.int 40692))) (eOp dMul (eC (.int 104729)) (eVar 1))))
 (sSeq (sAsg (.one 2) (eOp dAdd (eOp dMod (eOp dMul (eVar 2) (eVar 2)) (eC (.int 2147483399))) (eVar 1)))
 (sRet (eOp dMod (eOp dMul (eVar 2) (eOp dAdd (eVar 2) (eC (.int 31)))) (eC (.int 2147483563))))))
noncomputable def F__law_box : List D → Store → Res D := fnD 2 5 leaveC (sSeq (sAsg (.one 2) (eCB F__law_cell (aCons (eVar 0) (aCons (eVar 1) aNil))))
 (sSeq (sIf (tOfE (eOp dEq (eOp dMod (eVar 2) (eC (.int 2))) (eC (.int 0)))) (sRet (eCel (aCons (eOp dFdiv (eVar 2) (eC (.int 2))) aNil))) sNext)
 (sSeq (sAsg (.one 3) (eC (.int 0)))
 (sSeq (sPre [4] (sFor (.one 4) (iCall rng1 (aCons (eC (.int 24)) aNil)) (sWipe [4] (sAsg (.one 3) (eOp dAdd (eOp dMul (eVar 3) (eC (.int 2147483647))) (eCB F__law_mix (aCons (eVar 2) (aCons (eVar 4) aNil))))))))
 (sRet (eCel (aCons (eVar 3) aNil)))))))
noncomputable def F__law_take : List D → Store → Res D := fnD 2 4 leave (sSeq (sAsg (.many [2, 3]) (eCB dDivmod (aCons (eOp dIx (eVar 0) (eC (.int 0))) (aCons (eVar 1) aNil))))
 (sSeq (sSetIx (eVar 0) (eC (.int 0)) (eVar 2))
 (sRet (eVar 3))))
noncomputable def F__law_wide_box : List D → Store → Res D := fnD 1 4 leaveC (sSeq (sPar 1 2 (aCons (eCB F__law_take (aCons (eVar 0) (aCons (eC (.int 2147483647)) aNil))) (aCons (eC (.int 0)) aNil)))
 (sSeq (sPre [3] (sFor (.one 3) (iCall rng1 (aCons (eC (.int 24)) aNil)) (sWipe [3] (sSeq (sAsg (.one 1) (eOp dMod (eOp dAdd (eOp dAdd (eOp dMul (eVar 1) (eC (.int 48271))) (eC (.int 11))) (eVar 3)) (eC (.int 2147483647))))
 (sAsg (.one 2) (eOp dAdd (eOp dMul (eVar 2) (eC (.int 2147483647))) (eVar 1)))))))
 (sRet (eCel (aCons (eVar 2) aNil)))))
noncomputable def F__law_classes : List D → Store → Res D := fnD 1 2 leave (sSeq (sAsg (.one 1) (eLst (aCons (eCB dIsV (aCons (eVar 0) (aCons (eC (.gl "NoBoard")) aNil))) (aCons (eCB dIsV (aCons (eVar 0) (aCons (eC (.gl "NoLine")) aNil))) (aCons (eCB dIsV (aCons (eVar 0) (aCons (eC (.gl "NoSwitching")) aNil))) (aCons (eCB dIsV (aCons (eVar 0) (aCons (eC (.gl "NoNumber")) aNil))) aNil))))))
 (sSeq (sAsg (.one 1) (eOp dAdd (eVar 1) (eLst (aCons (eCB dIsV (aCons (eVar 0) (aCons (eC (.gl "Unlike")) aNil))) (aCons (eCB dIsV (aCons (eVar 0) (aCons (eC (.gl "NoNet")) aNil))) (aCons (eCB dIsV (aCons (eVar 0) (aCons (eC (.gl "NoPlace")) aNil))) (aCons (eCB dIsV (aCons (eVar 0) (aCons (eC (.gl "NoText")) aNil))) aNil)))))))
 (sRet (eOp dAdd (eVar 1) (eLst (aCons (eCB dIsV (aCons (eVar 0) (aCons (eC (.gl "NoRow")) aNil))) (aCons (eCB dIsV (aCons (eVar 0) (aCons (eC (.gl "TooMany")) aNil))) aNil)))))))
noncomputable def F_law : List D → Store → Res D := fnD 1 13 leave (sSeq (sAsg (.one 1) (eC (.str " !\"#$&'()*+,-./0123456789:;<=>?@ABCDEFGHIJKLMNOPQRSTUVWXYZ[\\]^_`")))
 (sSeq (sAsg (.one 1) (eOp dAdd (eVar 1) (eC (.str "abcdefghijklmnopqrstuvwxyz{|}~\n\t"))))
 (sSeq (sPre [2, 3, 4, 5, 6, 7, 8, 9, 10] (sFor (.one 2) (iCall rng1 (aCons (eCB dMax2 (aCons (eC (.int 1)) (aCons (eCB dMin2 (aCons (eCB dLen (aCons (eVar 0) aNil)) (aCons (eC (.int 4)) aNil))) aNil))) aNil)) (sReg (sWipe [2, 3, 4, 5, 6, 7, 8, 9, 10] (sSeq (sAsg (.one 3) (eCB F__law_wide_box (aCons (eCB F__law_box (aCons (eVar 0) (aCons (eVar 2) aNil))) aNil)))
 (sSeq (sAsg (.one 4) (eBM isSt dJoin (eC (.str "")) (aCons (eComp [11] (iCall rng1 (aCons (eCB F__law_take (aCons (eVar 3) (aCons (eC (.int 11)) aNil))) aNil)) (.one 11) bYes (eOp dIx (eVar 1) (eCB F__law_take (aCons (eVar 3) (aCons (eC (.int 96)) aNil)))) finL) aNil)))
 (sSeq (sPar 5 6 (aCons (eCB F__law_take (aCons (eVar 3) (aCons (eOp dPow (eC (.int 10)) (eC (.int 6))) aNil))) (aCons (eCB F__law_take (aCons (eVar 3) (aCons (eOp dPow (eC (.int 10)) (eC (.int 6))) aNil))) aNil)))
 (sSeq (sAsg (.one 7) (eLst (aCons (eExo "NoBoard" (eVar 4)) (aCons (eExo "NoLine" (eVar 4)) (aCons (eExo "NoSwitching" (eVar 4)) (aCons (eExo "NoNumber" (eVar 4)) (aCons (eExo "Unlike" (eVar 4)) (aCons (eExo "NoNet" (eVar 4)) aNil))))))))
 (sSeq (sAsg (.one 7) (eOp dAdd (eVar 7) (eLst (aCons (eExo "NoPlace" (eVar 4)) (aCons (eExo "NoText" (eVar 4)) (aCons (eExo "NoRow" (eVar 4)) (aCons (eExm "TooMany" (aCons (eVar 5) (aCons (eVar 6) aNil))) aNil)))))))
 (sSeq (sPre [8, 9] (sFor (.many [8, 9]) (iCall enumI (aCons (eVar 7) aNil)) (sWipe [8, 9] (sSeq (sIf (tOfE (eOp dNe (eCB F__law_classes (aCons (eVar 9) aNil)) (eComp [12] (iCall rng1 (aCons (eC (.int 10)) aNil)) (.one 12) bYes (eOp dEq (eVar 12) (eVar 8)) finL))) (sRet (eC (.bl false))) sNext)
 (sIf (bOr (bNot (tOfE (eCB dIsV (aCons (eVar 9) (aCons (eC (.gl "SwitchError")) aNil))))) (bNot (tOfE (eCB dIsV (aCons (eVar 9) (aCons (eC (.ty "ValueError")) aNil)))))) (sRet (eC (.bl false))) sNext)))))
 (sSeq (sIf (tOfE (eOp dNe (eCB dRepr (aCons (eLst (aCons (eFldV "many" (eOp dIx (eVar 7) (eC (.int 9)))) (aCons (eFldV "most" (eOp dIx (eVar 7) (eC (.int 9)))) aNil))) aNil)) (eCB dRepr (aCons (eLst (aCons (eVar 5) (aCons (eVar 6) aNil))) aNil)))) (sRet (eC (.bl false))) sNext)
 (sSeq (sAsg (.one 10) (eExo "SwitchError" (eVar 4)))
 (sIf (bOr (tOfE (eOp dInB (eC (.bl true)) (eCB F__law_classes (aCons (eVar 10) aNil)))) (bNot (tOfE (eCB dIsV (aCons (eVar 10) (aCons (eC (.ty "ValueError")) aNil)))))) (sRet (eC (.bl false))) sNext)))))))))))))
 (sRet (eC (.bl true))))))
end Ls
namespace Ls
open PySem PySem.Spec PyProof.Rows L2
/-! ### plain data -/
def b2i (b : Bool) : Int := if b = true then 1 else 0
def dB (b : Bool) : D := .int (b2i b)
def dN (n : Nat) : D := .int n
/-- a row of w lights, a board of h rows, a lot of a size, a switching -/
def rowD (w : Nat) (g : Nat → Bool) : D := .tup ((List.range w).map fun j => dB (g j))
def dM (h w : Nat) (f : Nat → Nat → Bool) : D := .tup ((List.range h).map fun i => rowD w (f i))
def dL (n : Nat) (p : Nat → Bool) : D := .tup (((List.range n).filter p).map dN)
def dSw (h w : Nat) (p q : Nat → Bool) : D := .tup [dL h p, dL w q]
def S8 (n : Nat) : Prop := 1 ≤ n ∧ n ≤ 8
@[simp] theorem small_of {n : Nat} (h : n ≤ 1000000) : small n = true := decide_eq_true h
theorem below_row (n w : Nat) (g : Nat → Bool) : below n (rowD w g) = true := by
  simp only [rowD, below_tup]
  exact belowL_map fun _ _ => rfl
theorem below_M (n h w : Nat) (f : Nat → Nat → Bool) : below n (dM h w f) = true := by
  simp only [dM, below_tup]
  exact belowL_map fun i _ => below_row n w (f i)
theorem below_L (n m : Nat) (p : Nat → Bool) : below n (dL m p) = true := by
  simp only [dL, below_tup]
  exact belowL_map fun _ _ => rfl
theorem below_Sw (n h w : Nat) (p q : Nat → Bool) : below n (dSw h w p q) = true := by
  simp [dSw, below_L]
/-! ### what leaves a call -/
@[simp] theorem leave_same (S : Store) (d : D) : leave S d S = .ok d S := by
  unfold leave
  rw [if_pos rfl]
theorem leave_len {S S1 : Store} {d : D} (h : S1.length = S.length) : leave S d S1 = .ok d S1 := by
  unfold leave
  rw [if_pos h]
theorem frz_below {n : Nat} {S : Store} {d : D} (h : below n d = true) : frz n S d = some d := by
  cases d <;> simp_all [frz, frz1, below]
theorem leave_below {S S1 : Store} {d : D} (hk : Kept S S1) (hd : below S.length d = true) : leave S d S1 = .ok d (S1.take S.length) := by
  unfold leave
  by_cases hl : S1.length = S.length
  · rw [if_pos hl, ← hl, List.take_length]
  · rw [if_neg hl, if_pos hk, frz_below hd]
theorem leave_app {S N : Store} {d : D} (hd : below S.length d = true) : leave S d (S ++ N) = .ok d S := by
  rw [leave_below (Kept.app S N) hd]
  simp
/-! ### comprehensions -/
theorem okNil (xs : List D) (S : Store) : okSrc (xs, []) S := fun p hp => (nomatch hp)
theorem compL_map {α : Type} {vs : List Nat} {t : Tgt} {fe : SE} {its : Items} {ρ : Rho} {S : Store} {enc g : α → D} : ∀ (ys : List α) (acc : List D), okSrc its S →
    (∀ y, y ∈ ys → ∃ ρ', t.asg (enc y) (wipeD ρ vs) = some ρ' ∧ fe ρ' S = .ok (g y) S) → acc.length + ys.length ≤ 1000000 →
    compL vs t bYes fe its (ys.map enc) ρ acc S = .ok (acc ++ ys.map g) S
  | [], acc, ho, _, _ => by
    simp only [List.map_nil, compL, if_pos ho, List.append_nil]
  | y :: ys, acc, ho, h, hs => by
    obtain ⟨ρ', e1, e2⟩ := h y (by simp)
    have hs' : acc.length + (ys.length + 1) ≤ 1000000 := by simpa using hs
    simp only [List.map_cons, compL, if_pos ho, e1, opt_some, bindX_ok, bYes, if_true, e2, small_of (show acc.length + 1 ≤ 1000000 by omega)]
    rw [compL_map ys (acc ++ [g y]) ho (fun z hz => h z (List.mem_cons_of_mem _ hz)) (by simp; omega)]
    simp
theorem compL_filter {α : Type} {vs : List Nat} {t : Tgt} {ft : SB} {fe : SE} {its : Items} {ρ : Rho} {S : Store} {enc g : α → D} {p : α → Bool} : ∀ (ys : List α) (acc : List D), okSrc its S →
    (∀ y, y ∈ ys → ∃ ρ', t.asg (enc y) (wipeD ρ vs) = some ρ' ∧ ft ρ' S = .ok (p y) S ∧ fe ρ' S = .ok (g y) S) → acc.length + ys.length ≤ 1000000 →
    compL vs t ft fe its (ys.map enc) ρ acc S = .ok (acc ++ (ys.filter p).map g) S
  | [], acc, ho, _, _ => by
    simp only [List.map_nil, compL, if_pos ho, List.filter_nil, List.append_nil]
  | y :: ys, acc, ho, h, hs => by
    obtain ⟨ρ', e1, e2, e3⟩ := h y (by simp)
    have hs' : acc.length + (ys.length + 1) ≤ 1000000 := by simpa using hs
    simp only [List.map_cons, compL, if_pos ho, e1, opt_some, bindX_ok, e2]
    by_cases hp : p y = true
    · simp only [hp, if_true, e3, bindX_ok, small_of (show acc.length + 1 ≤ 1000000 by omega)]
      rw [compL_filter ys (acc ++ [g y]) ho (fun z hz => h z (List.mem_cons_of_mem _ hz)) (by simp; omega), List.filter_cons_of_pos hp]
      simp
    · have hp' : p y = false := by simpa using hp
      simp only [hp', if_neg Bool.false_ne_true]
      rw [compL_filter ys acc ho (fun z hz => h z (List.mem_cons_of_mem _ hz)) (by omega), List.filter_cons_of_neg hp]
/-- [e for x in s], s read to ys -/
theorem comp_map {α : Type} {vs : List Nat} {fi : SI} {t : Tgt} {fe : SE} {ρ : Rho} {S : Store} {its : Items} (ys : List α) (enc g : α → D) (hi : fi ρ S = .ok its S) (hy : its.1 = ys.map enc) (ho : okSrc its S)
    (h : ∀ y, y ∈ ys → ∃ ρ', t.asg (enc y) (wipeD ρ vs) = some ρ' ∧ fe ρ' S = .ok (g y) S) (hs : ys.length ≤ 1000000) : eComp vs fi t bYes fe finL ρ S = .ok (.lst (ys.map g)) S := by
  unfold eComp
  rw [hi, bind_ok, hy, compL_map ys [] ho h (by simpa using hs), bind_ok]
  rfl
theorem comp_filter {α : Type} {vs : List Nat} {fi : SI} {t : Tgt} {ft : SB} {fe : SE} {ρ : Rho} {S : Store} {its : Items} (ys : List α) (enc g : α → D) (p : α → Bool) (hi : fi ρ S = .ok its S) (hy : its.1 = ys.map enc) (ho : okSrc its S)
    (h : ∀ y, y ∈ ys → ∃ ρ', t.asg (enc y) (wipeD ρ vs) = some ρ' ∧ ft ρ' S = .ok (p y) S ∧ fe ρ' S = .ok (g y) S) (hs : ys.length ≤ 1000000) : eComp vs fi t ft fe finL ρ S = .ok (.lst ((ys.filter p).map g)) S := by
  unfold eComp
  rw [hi, bind_ok, hy, compL_filter ys [] ho h (by simpa using hs), bind_ok]
  rfl
/-! ### small facts of data -/
theorem boolsOf_mapf {α : Type} (f : α → Bool) (ys : List α) : boolsOf (ys.map fun y => .bl (f y)) = some (ys.map f) := by
  induction ys with
  | nil => rfl
  | cons y ys ih => simp [boolsOf, ih]
theorem dAll_map {α : Type} (f : α → Bool) (ys : List α) (S : Store) : dAll [.lst (ys.map fun y => .bl (f y))] S = .ok (.bl (ys.all f)) S := by
  simp [dAll, boolsOf_mapf, List.all_map, Function.comp_def]
end Ls
namespace Ls
open PySem PySem.Spec PyProof.Rows L2
@[simp] theorem endOf_rt (lv : Store → D → Store → Res D) (S : Store) (d : D) (S1 : Store) : endOf lv S (.ok (.rt d) S1) = lv S d S1 := rfl
@[simp] theorem endOf_nx (lv : Store → D → Store → Res D) (S : Store) (ρ : Rho) (S1 : Store) : endOf lv S (.ok (.nx ρ) S1) = lv S .non S1 := rfl
@[simp] theorem endOf_exc (lv : Store → D → Store → Res D) (S : Store) (x : Str) (fs : List D) (S1 : Store) : endOf lv S (.exc x fs S1) = leaveX S x fs S1 := rfl
@[simp] theorem leaveX_same (S : Store) (x : Str) (fs : List D) : leaveX S x fs S = .exc x fs S := by
  unfold leaveX
  rw [if_pos rfl]
/-! ### for -/
theorem forL_range {t : Tgt} {body : SS} {its : Items} {enc : Nat → D} {ρs : Nat → Rho} {Ss : Nat → Store} : ∀ (n : Nat), (∀ k, k ≤ n → okSrc its (Ss k)) →
    (∀ k, k < n → ∃ ρ', t.asg (enc k) (ρs k) = some ρ' ∧ body ρ' (Ss k) = .ok (.nx (ρs (k + 1))) (Ss (k + 1))) →
    forL t body its ((List.range n).map enc) (ρs 0) (Ss 0) = .ok (.nx (ρs n)) (Ss n) := by
  have key : ∀ (m k n : Nat), k + m = n → (∀ k, k ≤ n → okSrc its (Ss k)) → (∀ k, k < n → ∃ ρ', t.asg (enc k) (ρs k) = some ρ' ∧ body ρ' (Ss k) = .ok (.nx (ρs (k + 1))) (Ss (k + 1))) →
      forL t body its ((List.range' k m).map enc) (ρs k) (Ss k) = .ok (.nx (ρs n)) (Ss n) := by
    intro m
    induction m with
    | zero =>
      intro k n e ho _
      have : k = n := by omega
      subst this
      simp only [List.range'_zero, List.map_nil, forL, if_pos (ho k (Nat.le_refl _))]
    | succ m ih =>
      intro k n e ho h
      obtain ⟨ρ', e1, e2⟩ := h k (by omega)
      simp only [List.range'_succ, List.map_cons, forL, if_pos (ho k (by omega)), e1, opt_some, bind_ok, e2]
      exact ih (k + 1) n (by omega) ho h
  intro n ho h
  rw [List.range_eq_range']
  exact key n 0 n (by omega) ho h
theorem for_range {t : Tgt} {fi : SI} {body : SS} {its : Items} {enc : Nat → D} {ρ : Rho} {S : Store} (n : Nat) (ρs : Nat → Rho) (Ss : Nat → Store) (hi : fi ρ S = .ok its (Ss 0)) (hy : its.1 = (List.range n).map enc) (h0 : ρ = ρs 0) (ho : ∀ k, k ≤ n → okSrc its (Ss k))
    (h : ∀ k, k < n → ∃ ρ', t.asg (enc k) (ρs k) = some ρ' ∧ body ρ' (Ss k) = .ok (.nx (ρs (k + 1))) (Ss (k + 1))) : sFor t fi body ρ S = .ok (.nx (ρs n)) (Ss n) := by
  unfold sFor
  rw [hi, bind_ok, hy, h0]
  exact forL_range n ho h
/-- any loop, by what holds between two turns -/
theorem forL_inv {α : Type} {t : Tgt} {body : SS} {its : Items} {enc : α → D} (I : Rho → Store → Prop) : ∀ (ys : List α) (ρ : Rho) (S : Store), (∀ ρ S, I ρ S → okSrc its S) →
    (∀ y, y ∈ ys → ∀ ρ S, I ρ S → ∃ ρ', t.asg (enc y) ρ = some ρ' ∧ ∃ ρ2 S2, body ρ' S = .ok (.nx ρ2) S2 ∧ I ρ2 S2) → I ρ S → ∃ ρ2 S2, forL t body its (ys.map enc) ρ S = .ok (.nx ρ2) S2 ∧ I ρ2 S2
  | [], ρ, S, ho, _, h0 => ⟨ρ, S, by simp only [List.map_nil, forL, if_pos (ho ρ S h0)], h0⟩
  | y :: ys, ρ, S, ho, h, h0 => by
    obtain ⟨ρ', e1, ρ2, S2, e2, h2⟩ := h y (by simp) ρ S h0
    obtain ⟨ρ3, S3, e3, h3⟩ := forL_inv I ys ρ2 S2 ho (fun z hz => h z (List.mem_cons_of_mem _ hz)) h2
    refine ⟨ρ3, S3, ?_, h3⟩
    simp only [List.map_cons, forL, if_pos (ho ρ S h0), e1, opt_some, bind_ok, e2]
    exact e3
/-- a comprehension by what holds between two turns -/
theorem compL_inv {α : Type} {vs : List Nat} {t : Tgt} {ft : SB} {fe : SE} {its : Items} {ρ : Rho} {enc : α → D} (I : List D → Store → Prop) : ∀ (ys : List α) (acc : List D) (S : Store), (∀ acc S, I acc S → okSrc its S) →
    (∀ y, y ∈ ys → ∀ acc S, I acc S → ∃ ρ', t.asg (enc y) (wipeD ρ vs) = some ρ' ∧ ∃ b S3, ft ρ' S = .ok b S3 ∧ ((b = true ∧ ∃ d S4, fe ρ' S3 = .ok d S4 ∧ I (acc ++ [d]) S4) ∨ (b = false ∧ I acc S3))) → I acc S → acc.length + ys.length ≤ 1000000 →
    ∃ zs S', compL vs t ft fe its (ys.map enc) ρ acc S = .ok zs S' ∧ I zs S'
  | [], acc, S, ho, _, h0, _ => ⟨acc, S, by simp only [List.map_nil, compL, if_pos (ho acc S h0)], h0⟩
  | y :: ys, acc, S, ho, h, h0, hs => by
    obtain ⟨ρ', e1, b, S3, e2, h3⟩ := h y (by simp) acc S h0
    have hs' : acc.length + (ys.length + 1) ≤ 1000000 := by simpa using hs
    rcases h3 with ⟨rfl, d, S4, e4, h4⟩ | ⟨rfl, h4⟩
    · obtain ⟨zs, S', e5, h5⟩ := compL_inv I ys (acc ++ [d]) S4 ho (fun z hz => h z (List.mem_cons_of_mem _ hz)) h4 (by simp; omega)
      refine ⟨zs, S', ?_, h5⟩
      simp only [List.map_cons, compL, if_pos (ho acc S h0), e1, opt_some, bindX_ok, e2, if_true, e4, small_of (show acc.length + 1 ≤ 1000000 by omega)]
      exact e5
    · obtain ⟨zs, S', e5, h5⟩ := compL_inv I ys acc S3 ho (fun z hz => h z (List.mem_cons_of_mem _ hz)) h4 (by omega)
      refine ⟨zs, S', ?_, h5⟩
      simp only [List.map_cons, compL, if_pos (ho acc S h0), e1, opt_some, bindX_ok, e2, if_neg Bool.false_ne_true]
      exact e5
/-! ### equality of data -/
mutual
def tidy : Nat → D → Bool
  | _, .non => true
  | _, .int _ => true
  | _, .str x => PyData.strOk x
  | k + 1, .tup xs => tidyL k xs
  | k + 1, .lst xs => tidyL k xs
  | _, _ => false
def tidyL : Nat → List D → Bool
  | _, [] => true
  | k, d :: r => tidy k d && tidyL k r
end
theorem tidyL_iff {k : Nat} {xs : List D} : tidyL k xs = true ↔ ∀ d, d ∈ xs → tidy k d = true := by
  induction xs with
  | nil => simp [tidyL]
  | cons x r ih => simp [tidyL, ih]
mutual
theorem tidy_pd : ∀ {k : Nat} {d : D}, tidy k d = true → ∃ x, pd d = some x ∧ x.canLay0 = true ∧ x.depth ≤ k
  | k, .non, _ => ⟨.none, rfl, rfl, Nat.zero_le _⟩
  | k, .int i, _ => ⟨.int i, rfl, rfl, Nat.zero_le _⟩
  | k, .str x, h => ⟨.str x, rfl, by simpa [PyData.canLay0, tidy] using h, Nat.zero_le _⟩
  | k + 1, .tup xs, h => by
    obtain ⟨ys, e, h1, h2⟩ := tidyL_pd (k := k) (ds := xs) (by simpa [tidy] using h)
    exact ⟨.tuple ys, by simp [pd, e], by simpa [PyData.canLay0] using h1, by simpa [PyData.depth] using h2⟩
  | k + 1, .lst xs, h => by
    obtain ⟨ys, e, h1, h2⟩ := tidyL_pd (k := k) (ds := xs) (by simpa [tidy] using h)
    exact ⟨.list ys, by simp [pd, e], by simpa [PyData.canLay0] using h1, by simpa [PyData.depth] using h2⟩
  | 0, .tup xs, h => by simp [tidy] at h
  | 0, .lst xs, h => by simp [tidy] at h
  | k, .bl _, h => by simp [tidy] at h
  | k, .scr _, h => by simp [tidy] at h
  | k, .ref _, h => by simp [tidy] at h
  | k, .gl _, h => by simp [tidy] at h
  | k, .emp, h => by simp [tidy] at h
  | k, .ty _, h => by simp [tidy] at h
theorem tidyL_pd : ∀ {k : Nat} {ds : List D}, tidyL k ds = true → ∃ xs, pdL ds = some xs ∧ PyData.canLayAll0 xs = true ∧ PyData.depthAll xs ≤ k
  | k, [], _ => ⟨[], rfl, rfl, Nat.zero_le _⟩
  | k, d :: ds, h => by
    have h' : tidy k d = true ∧ tidyL k ds = true := by simpa [tidyL] using h
    obtain ⟨x, e1, c1, d1⟩ := tidy_pd h'.1
    obtain ⟨xs, e2, c2, d2⟩ := tidyL_pd h'.2
    exact ⟨x :: xs, by simp [pdL, e1, e2], by simp [PyData.canLayAll0, c1, c2], by simp [PyData.depthAll]; omega⟩
end
theorem tidyL_eqvOf {k : Nat} (ih : ∀ {a b : D} {x y : PyData}, tidy k a = true → tidy k b = true → pd a = some x → pd b = some y → (PyData.eqv x y = true ↔ a = b)) :
    ∀ {as bs : List D} {xs ys : List PyData}, tidyL k as = true → tidyL k bs = true → pdL as = some xs → pdL bs = some ys → (PyData.eqvAll xs ys = true ↔ as = bs)
  | [], [], xs, ys, _, _, ea, eb => by
    cases ea
    cases eb
    simp [PyData.eqvAll]
  | [], b :: bs, xs, ys, _, hb, ea, eb => by
    cases ea
    have h' : tidy k b = true ∧ tidyL k bs = true := by simpa [tidyL] using hb
    obtain ⟨x, e1, _⟩ := tidy_pd h'.1
    obtain ⟨zs, e2, _⟩ := tidyL_pd h'.2
    simp [pdL, e1, e2] at eb
    subst eb
    simp [PyData.eqvAll]
  | a :: as, [], xs, ys, ha, _, ea, eb => by
    cases eb
    have h' : tidy k a = true ∧ tidyL k as = true := by simpa [tidyL] using ha
    obtain ⟨x, e1, _⟩ := tidy_pd h'.1
    obtain ⟨zs, e2, _⟩ := tidyL_pd h'.2
    simp [pdL, e1, e2] at ea
    subst ea
    simp [PyData.eqvAll]
  | a :: as, b :: bs, xs, ys, ha, hb, ea, eb => by
    have ha' : tidy k a = true ∧ tidyL k as = true := by simpa [tidyL] using ha
    have hb' : tidy k b = true ∧ tidyL k bs = true := by simpa [tidyL] using hb
    obtain ⟨x, e1, _⟩ := tidy_pd ha'.1
    obtain ⟨zs, e2, _⟩ := tidyL_pd ha'.2
    obtain ⟨y, e3, _⟩ := tidy_pd hb'.1
    obtain ⟨us, e4, _⟩ := tidyL_pd hb'.2
    simp [pdL, e1, e2] at ea
    simp [pdL, e3, e4] at eb
    subst ea eb
    have i1 := ih ha'.1 hb'.1 e1 e3
    have i2 := tidyL_eqvOf ih ha'.2 hb'.2 e2 e4
    simp [PyData.eqvAll, i1, i2]
theorem tidy_eqv : ∀ (k : Nat) {a b : D} {x y : PyData}, tidy k a = true → tidy k b = true → pd a = some x → pd b = some y → (PyData.eqv x y = true ↔ a = b) := by
  intro k
  induction k with
  | zero =>
    intro a b x y ha hb ea eb
    cases a <;> cases b <;> simp [tidy] at ha hb <;> simp [pd] at ea eb <;> subst ea eb <;> simp [PyData.eqv]
  | succ k ih =>
    intro a b x y ha hb ea eb
    cases a <;> cases b <;> simp [tidy] at ha hb <;> simp [pd] at ea eb <;> (try (subst ea eb; simp [PyData.eqv]; done))
    all_goals first
      | (obtain ⟨u, hu, rfl⟩ := ea; obtain ⟨v, hv, rfl⟩ := eb; simp only [PyData.eqv, D.tup.injEq, D.lst.injEq]; exact tidyL_eqvOf ih ha hb hu hv)
      | (obtain ⟨u, hu, rfl⟩ := ea; obtain ⟨v, hv, rfl⟩ := eb; simp [PyData.eqv]; done)
      | (obtain ⟨u, hu, rfl⟩ := ea; subst eb; simp [PyData.eqv]; done)
      | (obtain ⟨v, hv, rfl⟩ := eb; subst ea; simp [PyData.eqv]; done)
theorem pdS_tidy {k : Nat} {d : D} (S : Store) (h : tidy k d = true) : pdS S d = pd d := by
  cases d <;> first | rfl | simp [tidy] at h
open Classical in theorem eqD_tidy {neg : Bool} {a b : D} (S : Store) (ha : tidy 60 a = true) (hb : tidy 60 b = true) : eqD neg a b S = .ok (.bl (if neg = true then !decide (a = b) else decide (a = b))) S := by
  obtain ⟨x, ex, cx, dx⟩ := tidy_pd ha
  obtain ⟨y, ey, cy, dy⟩ := tidy_pd hb
  have sx : SeqAt.shaped x = true := by simp [SeqAt.shaped, cx]; omega
  have sy : SeqAt.shaped y = true := by simp [SeqAt.shaped, cy]; omega
  have e : PyData.eqv x y = decide (a = b) := by
    have := tidy_eqv 60 ha hb ex ey
    by_cases h : a = b
    · rw [this.mpr h, decide_eq_true h]
    · rw [decide_eq_false h]
      cases q : PyData.eqv x y with
      | false => rfl
      | true => exact absurd (this.mp q) h
  unfold eqD
  rw [pdS_tidy S ha, pdS_tidy S hb, ex, ey]
  simp only [sx, sy, Bool.and_self, if_true, e]
theorem dEq_same {a : D} (S : Store) (ha : tidy 60 a = true) : dEq a a S = .ok (.bl true) S := by
  classical
  show eqD false a a S = _
  rw [eqD_tidy S ha ha]
  simp
theorem dNe_same {a : D} (S : Store) (ha : tidy 60 a = true) : dNe a a S = .ok (.bl false) S := by
  classical
  show eqD true a a S = _
  rw [eqD_tidy S ha ha]
  simp
theorem dNe_eq {a b : D} (S : Store) (ha : tidy 60 a = true) (e : a = b) : dNe a b S = .ok (.bl false) S := by
  subst e
  exact dNe_same S ha
theorem dEq_int (i j : Int) (S : Store) : dEq (.int i) (.int j) S = .ok (.bl (decide (i = j))) S := by
  classical
  show eqD false _ _ S = _
  rw [eqD_tidy S rfl rfl]
  simp only [Bool.false_eq_true, if_false]
  congr 2
  exact decide_eq_decide.mpr (by simp)
theorem dNe_int (i j : Int) (S : Store) : dNe (.int i) (.int j) S = .ok (.bl (!decide (i = j))) S := by
  classical
  show eqD true _ _ S = _
  rw [eqD_tidy S rfl rfl]
  simp only [if_true]
  congr 2
  congr 1
  exact decide_eq_decide.mpr (by simp)
theorem dEq_bl (x y : Bool) (S : Store) : dEq (.bl x) (.bl y) S = .ok (.bl (decide (x = y))) S := by
  cases x <;> cases y <;> rfl
theorem dNe_bl (x y : Bool) (S : Store) : dNe (.bl x) (.bl y) S = .ok (.bl (!decide (x = y))) S := by
  cases x <;> cases y <;> rfl
@[simp] theorem dInt0_ii (f : Int → Int → D) (i j : Int) (S : Store) : dInt0 f (.int i) (.int j) S = .ok (f i j) S := rfl
@[simp] theorem dAdd_ii (i j : Int) (S : Store) : dAdd (.int i) (.int j) S = .ok (.int (i + j)) S := rfl
@[simp] theorem dLt_ii (i j : Int) (S : Store) : dLt (.int i) (.int j) S = .ok (.bl (decide (i < j))) S := rfl
@[simp] theorem dInt1_bl (b : Bool) (S : Store) : dInt1 [.bl b] S = .ok (dB b) S := rfl
theorem srcOf_tup (xs : List D) (S : Store) : srcOf S (.tup xs) = some (xs, []) := rfl
theorem srcOf_lst (xs : List D) (S : Store) : srcOf S (.lst xs) = some (xs, []) := rfl
theorem forL_invN {t : Tgt} {body : SS} {its : Items} {enc : Nat → D} (I : Nat → Rho → Store → Prop) (ho : ∀ k ρ S, I k ρ S → okSrc its S) : ∀ (m k n : Nat) (ρ : Rho) (S : Store), k + m = n →
    (∀ k, k < n → ∀ ρ S, I k ρ S → ∃ ρ', t.asg (enc k) ρ = some ρ' ∧ ∃ ρ2 S2, body ρ' S = .ok (.nx ρ2) S2 ∧ I (k + 1) ρ2 S2) → I k ρ S → ∃ ρ2 S2, forL t body its ((List.range' k m).map enc) ρ S = .ok (.nx ρ2) S2 ∧ I n ρ2 S2 := by
  intro m
  induction m with
  | zero =>
    intro k n ρ S e _ h0
    have : k = n := by omega
    subst this
    exact ⟨ρ, S, by simp only [List.range'_zero, List.map_nil, forL, if_pos (ho _ ρ S h0)], h0⟩
  | succ m ih =>
    intro k n ρ S e h h0
    obtain ⟨ρ', e1, ρ2, S2, e2, h2⟩ := h k (by omega) ρ S h0
    obtain ⟨ρ3, S3, e3, h3⟩ := ih (k + 1) n ρ2 S2 (by omega) h h2
    refine ⟨ρ3, S3, ?_, h3⟩
    simp only [List.range'_succ, List.map_cons, forL, if_pos (ho _ ρ S h0), e1, opt_some, bind_ok, e2]
    exact e3
theorem for_inv {t : Tgt} {fi : SI} {body : SS} {its : Items} {enc : Nat → D} {ρ : Rho} {S S' : Store} (n : Nat) (I : Nat → Rho → Store → Prop) (hi : fi ρ S = .ok its S') (hy : its.1 = (List.range n).map enc) (h0 : I 0 ρ S') (ho : ∀ k ρ S, I k ρ S → okSrc its S)
    (h : ∀ k, k < n → ∀ ρ S, I k ρ S → ∃ ρ', t.asg (enc k) ρ = some ρ' ∧ ∃ ρ2 S2, body ρ' S = .ok (.nx ρ2) S2 ∧ I (k + 1) ρ2 S2) : ∃ ρ2 S2, sFor t fi body ρ S = .ok (.nx ρ2) S2 ∧ I n ρ2 S2 := by
  unfold sFor
  rw [hi, bind_ok, hy, List.range_eq_range']
  exact forL_invN I ho n 0 n ρ S' (by omega) h h0
theorem compL_invN {vs : List Nat} {t : Tgt} {ft : SB} {fe : SE} {its : Items} {ρ : Rho} {enc : Nat → D} (I : Nat → List D → Store → Prop) (ho : ∀ k acc S, I k acc S → okSrc its S ∧ acc.length ≤ k) : ∀ (m k n : Nat) (acc : List D) (S : Store), k + m = n → n ≤ 1000000 →
    (∀ k, k < n → ∀ acc S, I k acc S → ∃ ρ', t.asg (enc k) (wipeD ρ vs) = some ρ' ∧ ∃ b S3, ft ρ' S = .ok b S3 ∧ ((b = true ∧ ∃ d S4, fe ρ' S3 = .ok d S4 ∧ I (k + 1) (acc ++ [d]) S4) ∨ (b = false ∧ I (k + 1) acc S3))) → I k acc S →
    ∃ zs S', compL vs t ft fe its ((List.range' k m).map enc) ρ acc S = .ok zs S' ∧ I n zs S' := by
  intro m
  induction m with
  | zero =>
    intro k n acc S e _ _ h0
    have : k = n := by omega
    subst this
    exact ⟨acc, S, by simp only [List.range'_zero, List.map_nil, compL, if_pos (ho _ acc S h0).1], h0⟩
  | succ m ih =>
    intro k n acc S e hn h h0
    obtain ⟨ρ', e1, b, S3, e2, h3⟩ := h k (by omega) acc S h0
    have hl := (ho k acc S h0).2
    rcases h3 with ⟨rfl, d, S4, e4, h4⟩ | ⟨rfl, h4⟩
    · obtain ⟨zs, S', e5, h5⟩ := ih (k + 1) n (acc ++ [d]) S4 (by omega) hn h h4
      refine ⟨zs, S', ?_, h5⟩
      simp only [List.range'_succ, List.map_cons, compL, if_pos (ho _ acc S h0).1, e1, opt_some, bindX_ok, e2, if_true, e4, small_of (show acc.length + 1 ≤ 1000000 by omega)]
      exact e5
    · obtain ⟨zs, S', e5, h5⟩ := ih (k + 1) n acc S3 (by omega) hn h h4
      refine ⟨zs, S', ?_, h5⟩
      simp only [List.range'_succ, List.map_cons, compL, if_pos (ho _ acc S h0).1, e1, opt_some, bindX_ok, e2, if_neg Bool.false_ne_true]
      exact e5
theorem comp_inv {vs : List Nat} {fi : SI} {t : Tgt} {ft : SB} {fe : SE} {its : Items} {ρ : Rho} {S S' : Store} {enc : Nat → D} (n : Nat) (I : Nat → List D → Store → Prop) (hi : fi ρ S = .ok its S') (hy : its.1 = (List.range n).map enc) (h0 : I 0 [] S') (ho : ∀ k acc S, I k acc S → okSrc its S ∧ acc.length ≤ k) (hn : n ≤ 1000000)
    (h : ∀ k, k < n → ∀ acc S, I k acc S → ∃ ρ', t.asg (enc k) (wipeD ρ vs) = some ρ' ∧ ∃ b S3, ft ρ' S = .ok b S3 ∧ ((b = true ∧ ∃ d S4, fe ρ' S3 = .ok d S4 ∧ I (k + 1) (acc ++ [d]) S4) ∨ (b = false ∧ I (k + 1) acc S3))) :
    ∃ zs S2, eComp vs fi t ft fe finL ρ S = .ok (.lst zs) S2 ∧ I n zs S2 := by
  obtain ⟨zs, S2, e, hI⟩ := compL_invN (t := t) (ft := ft) (fe := fe) (vs := vs) (ρ := ρ) (enc := enc) I ho n 0 n [] S' (by omega) hn h h0
  refine ⟨zs, S2, ?_, hI⟩
  unfold eComp
  rw [hi, bind_ok, hy, List.range_eq_range', e, bind_ok]
  rfl
end Ls
namespace Ls
open PySem PySem.Spec PyProof.Rows L2
/-! ### boards as data -/
theorem tidy_row (k w : Nat) (g : Nat → Bool) : tidy (k + 1) (rowD w g) = true := by
  simp only [rowD, tidy]
  exact tidyL_iff.mpr fun d hd => by
    obtain ⟨x, _, rfl⟩ := List.mem_map.mp hd
    simp [dB, tidy]
theorem tidy_M (k h w : Nat) (f : Nat → Nat → Bool) : tidy (k + 2) (dM h w f) = true := by
  simp only [dM, tidy]
  exact tidyL_iff.mpr fun d hd => by
    obtain ⟨x, _, rfl⟩ := List.mem_map.mp hd
    exact tidy_row k w _
theorem tidy_L (k n : Nat) (p : Nat → Bool) : tidy (k + 1) (dL n p) = true := by
  simp only [dL, tidy]
  exact tidyL_iff.mpr fun d hd => by
    obtain ⟨x, _, rfl⟩ := List.mem_map.mp hd
    simp [dN, tidy]
theorem tidy_Sw (k h w : Nat) (p q : Nat → Bool) : tidy (k + 2) (dSw h w p q) = true := by
  simp [dSw, tidy, tidyL, tidy_L]
theorem tM (h w : Nat) (f : Nat → Nat → Bool) : tidy 60 (dM h w f) = true := tidy_M 58 h w f
theorem tSw (h w : Nat) (p q : Nat → Bool) : tidy 60 (dSw h w p q) = true := tidy_Sw 58 h w p q
theorem tL (n : Nat) (p : Nat → Bool) : tidy 60 (dL n p) = true := tidy_L 59 n p
theorem b2i_inj {a b : Bool} : b2i a = b2i b ↔ a = b := by cases a <;> cases b <;> simp [b2i]
theorem map_range_congr {α : Type} {n : Nat} {f g : Nat → α} (h : ∀ i, i < n → f i = g i) : (List.range n).map f = (List.range n).map g :=
  List.map_congr_left fun i hi => h i (List.mem_range.mp hi)
theorem map_range_inj {α : Type} {n : Nat} {f g : Nat → α} (h : (List.range n).map f = (List.range n).map g) : ∀ i, i < n → f i = g i := fun i hi => by
  have := congrArg (fun l => l[i]?) h
  simpa [hi] using this
theorem row_congr {w : Nat} {g k : Nat → Bool} (h : ∀ j, j < w → g j = k j) : rowD w g = rowD w k := by
  unfold rowD
  rw [map_range_congr fun j hj => by rw [h j hj]]
theorem M_congr {h w : Nat} {f g : Nat → Nat → Bool} (e : ∀ i j, i < h → j < w → f i j = g i j) : dM h w f = dM h w g := by
  unfold dM
  rw [map_range_congr fun i hi => row_congr fun j hj => e i j hi hj]
theorem M_inj {h w : Nat} {f g : Nat → Nat → Bool} (e : dM h w f = dM h w g) : ∀ i j, i < h → j < w → f i j = g i j := fun i j hi hj => by
  have h1 := map_range_inj (D.tup.inj e) i hi
  have h2 := map_range_inj (D.tup.inj h1) j hj
  exact b2i_inj.mp (D.int.inj h2)
theorem L_congr {n : Nat} {p q : Nat → Bool} (h : ∀ i, i < n → p i = q i) : dL n p = dL n q := by
  unfold dL
  rw [List.filter_congr fun i hi => h i (List.mem_range.mp hi)]
theorem mem_filter_range {n i : Nat} {p : Nat → Bool} : i ∈ (List.range n).filter p ↔ i < n ∧ p i = true := by simp
theorem L_inj {n : Nat} {p q : Nat → Bool} (h : dL n p = dL n q) : ∀ i, i < n → p i = q i := fun i hi => by
  have h1 : (List.range n).filter p = (List.range n).filter q := by
    have := D.tup.inj h
    have inj : ∀ {a b : List Nat}, a.map dN = b.map dN → a = b := by
      intro a
      induction a with
      | nil => intro b h; cases b with
        | nil => rfl
        | cons => simp at h
      | cons x xs ih => intro b h; cases b with
        | nil => simp at h
        | cons y ys =>
          simp only [List.map_cons, List.cons.injEq] at h
          have : x = y := by
            have := D.int.inj h.1
            omega
          rw [this, ih h.2]
    exact inj this
  have h2 : i ∈ (List.range n).filter p ↔ i ∈ (List.range n).filter q := by rw [h1]
  simp only [mem_filter_range, hi, true_and] at h2
  cases hp : p i <;> cases hq : q i <;> simp_all
theorem Sw_congr {h w : Nat} {p p' q q' : Nat → Bool} (h1 : ∀ i, i < h → p i = p' i) (h2 : ∀ j, j < w → q j = q' j) : dSw h w p q = dSw h w p' q' := by
  unfold dSw
  rw [L_congr h1, L_congr h2]
/-! ### reading them -/
theorem items_row (w : Nat) (g : Nat → Bool) (S : Store) : items S (rowD w g) = some ((List.range w).map fun j => dB (g j)) := rfl
theorem items_M (h w : Nat) (f : Nat → Nat → Bool) (S : Store) : items S (dM h w f) = some ((List.range h).map fun i => rowD w (f i)) := rfl
theorem dLen_row (w : Nat) (g : Nat → Bool) (S : Store) : dLen [rowD w g] S = .ok (.int w) S := by simp [dLen, rowD, items]
theorem dLen_M (h w : Nat) (f : Nat → Nat → Bool) (S : Store) : dLen [dM h w f] S = .ok (.int h) S := by simp [dLen, dM, items]
theorem atI_map {α : Type} {n i : Nat} {f : Nat → α} (h : i < n) : atI ((List.range n).map f) (i : Int) = some (f i) := atI_nat (by simp [h])
theorem atI_map0 {α : Type} {n : Nat} {f : Nat → α} (h : 0 < n) : atI ((List.range n).map f) 0 = some (f 0) := atI_map (i := 0) h
theorem dIx_row {w j : Nat} {g : Nat → Bool} (S : Store) (h : j < w) : dIx (rowD w g) (.int (j : Int)) S = .ok (dB (g j)) S := by
  simp [dIx, rowD, items, atI_map h]
theorem dIx_M {h w i : Nat} {f : Nat → Nat → Bool} (S : Store) (hi : i < h) : dIx (dM h w f) (.int (i : Int)) S = .ok (rowD w (f i)) S := by
  simp [dIx, dM, items, atI_map hi]
theorem dIx_M0 {h w : Nat} {f : Nat → Nat → Bool} (S : Store) (hi : 1 ≤ h) : dIx (dM h w f) (.int 0) S = .ok (rowD w (f 0)) S := dIx_M (i := 0) S hi
theorem dIx_row0 {w : Nat} {g : Nat → Bool} (S : Store) (h : 1 ≤ w) : dIx (rowD w g) (.int 0) S = .ok (dB (g 0)) S := dIx_row (j := 0) S h
theorem dIx_pair0 (a b : D) (S : Store) : dIx (.tup [a, b]) (.int 0) S = .ok a S := by simp [dIx, items, atI, ixN, opt]
theorem dIx_pair1 (a b : D) (S : Store) : dIx (.tup [a, b]) (.int 1) S = .ok b S := by simp [dIx, items, atI, ixN, opt]
theorem rangeD_eq (n : Nat) : rangeD 0 n = (List.range n).map dN := by
  apply List.ext_getElem?
  intro i
  by_cases h : i < n
  · rw [rangeD_get 0 n i h]
    simp [h, dN]
  · rw [List.getElem?_eq_none (by rw [rangeD_len]; omega), List.getElem?_eq_none (by simp; omega)]
theorem rangeD_from (a : Int) (n : Nat) : rangeD a n = (List.range n).map fun (k : Nat) => .int (a + (k : Int)) := by
  apply List.ext_getElem?
  intro i
  by_cases h : i < n
  · rw [rangeD_get a n i h]
    simp [h]
  · rw [List.getElem?_eq_none (by rw [rangeD_len]; omega), List.getElem?_eq_none (by simp; omega)]
theorem rng1_nat {n : Nat} (S : Store) (h : n ≤ 1000000) : rng1 [.int (n : Int)] S = .ok ((List.range n).map dN, []) S := by
  have : tameB (n : Int) = true := by simp [tameB]; omega
  simp [rng1, this, rangeD_eq]
theorem enum_map (n : Nat) (g : Nat → D) : enumFrom 0 ((List.range n).map g) = (List.range n).map fun i => .tup [dN i, g i] := by
  apply List.ext_getElem?
  intro i
  rw [enumFrom_get]
  by_cases h : i < n
  · simp [h, dN]
  · rw [List.getElem?_eq_none (by simp; omega), List.getElem?_eq_none (by simp; omega)]
    rfl
theorem zip_map {α : Type} (ys : List α) (f g : α → D) : zipD (ys.map f) (ys.map g) = ys.map fun y => .tup [f y, g y] := by
  induction ys with
  | nil => rfl
  | cons y ys ih => simp [zipD, ih]
theorem intsOf_mapf {α : Type} (ys : List α) (f : α → Int) : intsOf (ys.map fun y => .int (f y)) = some (ys.map f) := by
  induction ys with
  | nil => rfl
  | cons y ys ih => simp [ih]
theorem dSum_map {α : Type} (ys : List α) (f : α → Int) (S : Store) : dSum [.lst (ys.map fun y => .int (f y))] S = .ok (.int (ys.map f).sum) S := by
  simp [dSum, intsOf_mapf]
theorem dSum_tup {α : Type} (ys : List α) (f : α → Int) (S : Store) : dSum [.tup (ys.map fun y => .int (f y))] S = .ok (.int (ys.map f).sum) S := by
  simp [dSum, intsOf_mapf]
theorem dTuple_lst (xs : List D) (S : Store) (h : xs.length ≤ 1000000) : dTuple [.lst xs] S = .ok (.tup xs) S := by
  simp [dTuple, items, mkTup, small_of h]
theorem xor_b (a b : Bool) : Builtin.bitXor (b2i a) (b2i b) = b2i (a ^^ b) := by cases a <;> cases b <;> rfl
theorem intsOf_L (n : Nat) (p : Nat → Bool) : intsOf (((List.range n).filter p).map dN) = some (((List.range n).filter p).map fun (i : Nat) => (i : Int)) := intsOf_mapf _ _
theorem mem_cast {l : List Nat} {i : Nat} : (i : Int) ∈ (l.map fun (k : Nat) => (k : Int)) ↔ i ∈ l := by
  simp only [List.mem_map]
  constructor
  · rintro ⟨a, h, e⟩
    have : a = i := by omega
    exact this ▸ h
  · intro h
    exact ⟨i, h, rfl⟩
theorem dIn_L {n i : Nat} {p : Nat → Bool} (S : Store) (h : i < n) : dIn (dN i) (dL n p) S = .ok (.bl (p i)) S := by
  simp only [dIn, inD, dN, dL, items, intsOf_L, Bool.false_eq_true, if_false, mem_cast, mem_filter_range, h, true_and]
  simp
theorem dNin_L {n i : Nat} {p : Nat → Bool} (S : Store) (h : i < n) : dNin (dN i) (dL n p) S = .ok (.bl (!p i)) S := by
  simp only [dNin, inD, dN, dL, items, intsOf_L, if_true, mem_cast, mem_filter_range, h, true_and]
  simp
/-! ### stage 1 -/
end Ls
namespace Ls
open PySem PySem.Spec PyProof.Rows L2
theorem sorted_filter (n : Nat) (p : Nat → Bool) : ((List.range n).filter p).Pairwise (· < ·) := List.Pairwise.filter _ List.pairwise_lt_range
theorem all_adj {l : List Nat} (h : l.Pairwise (· < ·)) : (zipD (l.dropLast.map dN) (l.tail.map dN)).all (fun d => match d with | .tup [.int a, .int b] => decide (a < b) | _ => false) = true := by
  induction l with
  | nil => rfl
  | cons x r ih =>
    cases r with
    | nil => rfl
    | cons y t =>
      have h1 := List.pairwise_cons.mp h
      have := ih h1.2
      simp only [List.dropLast_cons_cons, List.tail_cons, List.map_cons, zipD, List.all_cons, Bool.and_eq_true] at this ⊢
      refine ⟨?_, ?_⟩
      · have := h1.1 y (by simp)
        simp [dN]
        omega
      · cases t with
        | nil => simp [zipD]
        | cons z t => simpa using this
theorem slice_init (ds : List D) : cutD ds none (some (-1)) = ds.dropLast := by
  unfold cutD
  simp only [HT.sIx_none, List.drop_zero, Nat.sub_zero, HT.sIx]
  rw [if_pos (by decide), List.dropLast_eq_take]
  congr 1
  omega
theorem slice_tail (ds : List D) : cutD ds (some 1) none = ds.tail := by
  unfold cutD
  rw [HT.sIx_none, show HT.sIx ds.length 0 (some 1) = min 1 ds.length from HT.sIx_nat ds.length 0 1]
  cases ds with
  | nil => rfl
  | cons d r =>
    have : min 1 (d :: r).length = 1 := by simp
    rw [this]
    simp
theorem adj_pairs (l : List Nat) : ∃ ps : List (Nat × Nat), zipD (l.dropLast.map dN) (l.tail.map dN) = ps.map (fun p => .tup [dN p.1, dN p.2]) ∧ ps.length ≤ l.length ∧ (l.Pairwise (· < ·) → ∀ p, p ∈ ps → p.1 < p.2) := by
  refine ⟨l.dropLast.zip l.tail, ?_, by simp, ?_⟩
  · generalize l.dropLast = a
    generalize l.tail = b
    induction a generalizing b with
    | nil => simp [zipD]
    | cons x xs ih => cases b with
      | nil => simp [zipD]
      | cons y ys => simp [zipD, ih]
  · intro h
    induction l with
    | nil => simp
    | cons x r ih =>
      cases r with
      | nil => simp
      | cons y t =>
        have h1 := List.pairwise_cons.mp h
        intro p hp
        simp only [List.dropLast_cons_cons, List.tail_cons, List.zip_cons_cons, List.mem_cons] at hp
        rcases hp with rfl | hp
        · exact h1.1 y (by simp)
        · exact ih h1.2 p (by cases t with
            | nil => simp at hp
            | cons z t => simpa using hp)
theorem dIx_Sw0 (h w : Nat) (p q : Nat → Bool) (S : Store) : dIx (dSw h w p q) (.int 0) S = .ok (dL h p) S := dIx_pair0 _ _ S
theorem dIx_Sw1 (h w : Nat) (p q : Nat → Bool) (S : Store) : dIx (dSw h w p q) (.int 1) S = .ok (dL w q) S := dIx_pair1 _ _ S
/-- a board switched -/
def sw (f : Nat → Nat → Bool) (p q : Nat → Bool) : Nat → Nat → Bool := fun i j => f i j ^^ p i ^^ q j
theorem cell_last (S : Store) (xs : List D) : cell (S ++ [.lst xs]) S.length = some xs := by simp [cell]
theorem set_last (S : Store) (x y : Ob) : (S ++ [x]).set S.length y = S ++ [y] := by simp
theorem dAppend_last (S : Store) (xs : List D) (y : D) (h : xs.length + 1 ≤ 1000000) : dAppend (.ref S.length) [y] (S ++ [.lst xs]) = .ok .non (S ++ [.lst (xs ++ [y])]) := by
  simp only [dAppend, cell_last, small_of h, if_true, set_last]
theorem mkCel_ok' (xs : List D) (S : Store) (h : xs.length ≤ 1000000) : mkCel xs S = .ok (.ref S.length) (S ++ [.lst xs]) := by
  simp only [mkCel, small_of h, if_true]
end Ls
namespace Ls
open PySem PySem.Spec PyProof.Rows L2
theorem enumI_M (h w : Nat) (f : Nat → Nat → Bool) (S : Store) : enumI [dM h w f] S = .ok ((List.range h).map fun i => .tup [dN i, rowD w (f i)], []) S := by
  simp only [enumI, dM, srcOf, enum_map]
theorem dTuple_cell (S : Store) (xs : List D) (h : xs.length ≤ 1000000) : dTuple [.ref S.length] (S ++ [.lst xs]) = .ok (.tup xs) (S ++ [.lst xs]) := by
  simp [dTuple, items, cell_last, mkTup, small_of h]
theorem zipI_row (w : Nat) (g : Nat → Bool) (k : Nat → D) (S : Store) : zipI [rowD w g, .lst ((List.range w).map k)] S = .ok ((List.range w).map fun j => .tup [dB (g j), k j], []) S := by
  simp only [zipI, rowD, srcOf, zip_map, List.append_nil]
end Ls
namespace Ls
open PySem PySem.Spec PyProof.Rows L2
theorem srcOf_M (h w : Nat) (f : Nat → Nat → Bool) (S : Store) : srcOf S (dM h w f) = some ((List.range h).map fun i => rowD w (f i), []) := rfl
theorem srcOf_row (w : Nat) (g : Nat → Bool) (S : Store) : srcOf S (rowD w g) = some ((List.range w).map fun j => dB (g j), []) := rfl
theorem dIx_rowN {w j : Nat} {g : Nat → Bool} (S : Store) (h : j < w) : dIx (rowD w g) (dN j) S = .ok (dB (g j)) S := dIx_row S h
/-- how many are lit -/
def rsum (w : Nat) (g : Nat → Bool) : Int := ((List.range w).map fun j => b2i (g j)).sum
def lit (h w : Nat) (f : Nat → Nat → Bool) : Int := ((List.range h).map fun i => rsum w (f i)).sum
theorem dSum_row (w : Nat) (g : Nat → Bool) (S : Store) : dSum [rowD w g] S = .ok (.int (rsum w g)) S := dSum_tup _ _ S
/-- numbers as a tuple -/
def dI (n : Nat) (g : Nat → Int) : D := .tup ((List.range n).map fun i => .int (g i))
theorem tI (n : Nat) (g : Nat → Int) : tidy 60 (dI n g) = true := by
  simp only [dI, tidy]
  exact tidyL_iff.mpr fun d hd => by
    obtain ⟨x, _, rfl⟩ := List.mem_map.mp hd
    simp [tidy]
/-! ### lots -/
theorem sorted_unique : ∀ {a b : List Int}, a.Perm b → a.Pairwise (· ≤ ·) → b.Pairwise (· ≤ ·) → a = b
  | [], b, h, _, _ => (List.Perm.nil_eq h)
  | x :: a, b, h, ha, hb => by
    cases b with
    | nil => exact absurd h.length_eq (by simp)
    | cons y b =>
      have ha1 := List.pairwise_cons.mp ha
      have hb1 := List.pairwise_cons.mp hb
      have e : x = y := by
        have h1 : x ∈ y :: b := h.mem_iff.mp (by simp)
        have h2 : y ∈ x :: a := h.mem_iff.mpr (by simp)
        rcases List.mem_cons.mp h1 with h1 | h1
        · exact h1
        · rcases List.mem_cons.mp h2 with h2 | h2
          · exact h2.symm
          · exact Int.le_antisymm (ha1.1 y h2) (hb1.1 x h1)
      subst e
      rw [sorted_unique (List.Perm.cons_inv h) ha1.2 hb1.2]
theorem isort_eq {l s : List Int} (h : l.Perm s) (hs : s.Pairwise (· ≤ ·)) : isort l = s := sorted_unique ((isort_perm l).trans h) (isort_sorted l) hs
theorem split_xor (n : Nat) (p q : Nat → Bool) : ((((List.range n).filter p).filter fun i => !q i) ++ (((List.range n).filter q).filter fun i => !p i)).Perm ((List.range n).filter fun i => p i ^^ q i) := by
  induction List.range n with
  | nil => simp
  | cons x r ih =>
    cases hp : p x <;> cases hq : q x <;> simp [List.filter_cons, hp, hq]
    · simpa using ih
    · refine List.Perm.trans List.perm_middle ?_
      exact List.Perm.cons x (by simpa using ih)
    · simpa using ih
    · simpa using ih
end Ls
namespace Ls
open PySem PySem.Spec PyProof.Rows L2
/-! ### what the law draws -/
abbrev bits (x : Int) : Nat := Builtin.Int.intBits x
theorem dMul_ok {i j : Int} (S : Store) (hi : bits i ≤ 4194304) (hj : bits j ≤ 4194304) : dMul (.int i) (.int j) S = .ok (.int (i * j)) S := by
  have h : mulOk i j = true := by
    unfold mulOk bigOk
    rw [decide_eq_true hi, decide_eq_true hj]
    rfl
  simp only [dMul, h, if_true]
theorem dMod_ok {i j : Int} (S : Store) (hj : 0 < j) : dMod (.int i) (.int j) S = .ok (.int (i % j)) S := by
  have h : posOk i j = true := decide_eq_true hj
  simp only [dMod, dInt, h, if_true]
theorem divOk_of {i j : Int} (h1 : 0 < j) (h2 : j ≤ 1000000000000) : divOk i j = true := by
  unfold divOk
  simp only [Bool.and_eq_true, decide_eq_true_eq, Nat.ble_eq]
  omega
theorem dFdiv_ok {i j : Int} (S : Store) (h1 : 0 < j) (h2 : j ≤ 1000000000000) : dFdiv (.int i) (.int j) S = .ok (.int (i / j)) S := by
  simp only [dFdiv, dInt, divOk_of h1 h2, if_true]
theorem bits_nat {k : Nat} (h : k ≤ 1000000) : bits (k : Int) ≤ 64 := intBits_cast_le (by rw [sizeLine_eq]; omega)
theorem bits_lt {i : Int} (h0 : 0 ≤ i) (h1 : i < 2147483648) : bits i ≤ 31 := by
  refine intBits_le_iff.mpr ?_
  have : (2 : Nat) ^ 31 = 2147483648 := by decide
  omega
theorem F_law_cell_ok {ns : List Int} {k : Nat} (S : Store) (hb : ∀ z, z ∈ ns → bits z ≤ 1048576) (hk : k ≤ 1000) : ∃ c, F__law_cell [.scr ns, dN k] S = .ok (.int c) S ∧ bits c ≤ 1048576 := by
  have hl : dLen [.scr ns] S = .ok (.int ns.length) S := by simp [dLen, items]
  by_cases h : k < ns.length
  · refine ⟨ns[k], ?_, hb _ (List.getElem_mem h)⟩
    have e : atI (ns.map D.int) (k : Int) = some (.int ns[k]) := atI_nat (by simp [h])
    have h' : (k : Int) < ns.length := by omega
    simp [F__law_cell, sSeq, sIf, sRet, sAsg, sPar, sDrop, sNext, sPre, sWipe, Fl.wipe, wipeD, Tgt.asg, setAll, bOr, bAnd, bNot, tOfE, asB, asI, eIf, eAnd, eOr, eNot, eNeg, eVar, eC, eOp, eCB, eChain, eRev, aCons, aNil, eTup, eLst, mkTup, mkLst, eSl, oSome, oNone, iSeq, iCall, walked, srcOf_tup, srcOf_lst, opt_some, opt_none, dAdd_ii, dInt0_ii, dLt_ii, dInt1_bl, dEq_int, dNe_int, dEq_bl, dNe_bl, bind_ok, bind_no, bind_exc, fnD, startD, endOf_rt, endOf_nx, endOf_exc, List.map_cons, List.map_nil, List.length_cons, List.length_nil, List.cons_append, List.nil_append, List.getElem?_cons_zero, List.getElem?_cons_succ, List.set_cons_zero, List.set_cons_succ, List.replicate, if_true, if_false, Bool.false_eq_true, Bool.true_eq_false, Nat.reduceAdd, Nat.reduceSub, Nat.reduceEqDiff, reduceIte, ite_self, hl, dN, h, dIx, items, e]
  · refine ⟨6151 * k + 29, ?_, ?_⟩
    · have h' : ¬ (k : Int) < ns.length := by omega
      simp [F__law_cell, sSeq, sIf, sRet, sAsg, sPar, sDrop, sNext, sPre, sWipe, Fl.wipe, wipeD, Tgt.asg, setAll, bOr, bAnd, bNot, tOfE, asB, asI, eIf, eAnd, eOr, eNot, eNeg, eVar, eC, eOp, eCB, eChain, eRev, aCons, aNil, eTup, eLst, mkTup, mkLst, eSl, oSome, oNone, iSeq, iCall, walked, srcOf_tup, srcOf_lst, opt_some, opt_none, dAdd_ii, dInt0_ii, dLt_ii, dInt1_bl, dEq_int, dNe_int, dEq_bl, dNe_bl, bind_ok, bind_no, bind_exc, fnD, startD, endOf_rt, endOf_nx, endOf_exc, List.map_cons, List.map_nil, List.length_cons, List.length_nil, List.cons_append, List.nil_append, List.getElem?_cons_zero, List.getElem?_cons_succ, List.set_cons_zero, List.set_cons_succ, List.replicate, if_true, if_false, Bool.false_eq_true, Bool.true_eq_false, Nat.reduceAdd, Nat.reduceSub, Nat.reduceEqDiff, reduceIte, ite_self, hl, dN, h, dMul_ok S (show bits 6151 ≤ 4194304 by decide) (Nat.le_trans (bits_nat (k := k) (by omega)) (by decide))]
    · exact Nat.le_trans (bits_lt (by omega) (by omega)) (by decide)
theorem F_law_mix_ok {c : Int} {k : Nat} (S : Store) (hc : bits c ≤ 1048576) (hk : k ≤ 1000) : ∃ m, F__law_mix [.int c, dN k] S = .ok (.int m) S ∧ 0 ≤ m ∧ m < 2147483563 := by
  have b1 : bits (c + 1) ≤ 1048577 := Nat.le_trans (intBits_add_le hc (show bits 1 ≤ 1 by decide)) (by decide)
  have b2 : bits ((c + 1) * 40692) ≤ 1048593 := Nat.le_trans (intBits_mul_le b1 (show bits 40692 ≤ 16 by decide)) (by decide)
  have bk : bits (k : Int) ≤ 64 := bits_nat (by omega)
  have b3 : bits (104729 * (k : Int)) ≤ 81 := Nat.le_trans (intBits_mul_le (show bits 104729 ≤ 17 by decide) bk) (by decide)
  have b4 : bits ((c + 1) * 40692 + 104729 * (k : Int)) ≤ 1048594 := Nat.le_trans (intBits_add_le b2 b3) (by decide)
  generalize hn : (c + 1) * 40692 + 104729 * (k : Int) = n at b4
  have r0 := Int.emod_nonneg (n * n) (show (2147483399 : Int) ≠ 0 by decide)
  have r1 := Int.emod_lt_of_pos (n * n) (show (0 : Int) < 2147483399 by decide)
  generalize hm : n * n % 2147483399 + (k : Int) = m
  have bm : bits m ≤ 64 := by
    refine intBits_le_iff.mpr ?_
    have : (2 : Nat) ^ 64 = 18446744073709551616 := by decide
    omega
  have bm2 : bits (m + 31) ≤ 65 := Nat.le_trans (intBits_add_le bm (show bits 31 ≤ 5 by decide)) (by decide)
  refine ⟨m * (m + 31) % 2147483563, ?_, Int.emod_nonneg _ (by decide), Int.emod_lt_of_pos _ (by decide)⟩
  simp only [F__law_mix, sSeq, sIf, sRet, sAsg, sPar, sDrop, sNext, sPre, sWipe, Fl.wipe, wipeD, Tgt.asg, setAll, bOr, bAnd, bNot, tOfE, asB, asI, eIf, eAnd, eOr, eNot, eNeg, eVar, eC, eOp, eCB, eChain, eRev, aCons, aNil, eTup, eLst, mkTup, mkLst, eSl, oSome, oNone, iSeq, iCall, walked, srcOf_tup, srcOf_lst, opt_some, opt_none, dAdd_ii, dInt0_ii, dLt_ii, dInt1_bl, dEq_int, dNe_int, dEq_bl, dNe_bl, bind_ok, bind_no, bind_exc, fnD, startD, endOf_rt, endOf_nx, endOf_exc, List.map_cons, List.map_nil, List.length_cons, List.length_nil, List.cons_append, List.nil_append, List.getElem?_cons_zero, List.getElem?_cons_succ, List.set_cons_zero, List.set_cons_succ, List.replicate, if_true, if_false, Bool.false_eq_true, Bool.true_eq_false, Nat.reduceAdd, Nat.reduceSub, Nat.reduceEqDiff, reduceIte, ite_self, dN, dAdd_ii, dMul_ok S (Nat.le_trans b1 (by decide)) (show bits 40692 ≤ 4194304 by decide), dMul_ok S (show bits 104729 ≤ 4194304 by decide) (Nat.le_trans bk (by decide)), hn,
    dMul_ok S (Nat.le_trans b4 (by decide)) (Nat.le_trans b4 (by decide)), dMod_ok S (show (0 : Int) < 2147483399 by decide), hm, dMul_ok S (Nat.le_trans bm (by decide)) (Nat.le_trans bm2 (by decide)), dMod_ok S (show (0 : Int) < 2147483563 by decide), leave_same]
theorem leaveC_app (S : Store) (xs : List D) (h : belowL S.length xs = true) : leaveC S (.ref S.length) (S ++ [.lst xs]) = .ok (.ref S.length) (S ++ [.lst xs]) := by
  unfold leaveC
  simp only [Nat.lt_irrefl, if_false, cell_last]
  rw [if_pos ⟨Kept.app S _, h⟩]
  simp
theorem F_law_box_ok {ns : List Int} {k : Nat} (S : Store) (hb : ∀ z, z ∈ ns → bits z ≤ 1048576) (hk : k ≤ 1000) : ∃ x, F__law_box [.scr ns, dN k] S = .ok (.ref S.length) (S ++ [.lst [.int x]]) := by
  obtain ⟨c, e1, hc⟩ := F_law_cell_ok S hb hk
  by_cases h2 : c % 2 = 0
  · refine ⟨c / 2, ?_⟩
    simp only [F__law_box, sSeq, sIf, sRet, sAsg, sPar, sDrop, sNext, sPre, sWipe, Fl.wipe, wipeD, Tgt.asg, setAll, bOr, bAnd, bNot, tOfE, asB, asI, eIf, eAnd, eOr, eNot, eNeg, eVar, eC, eOp, eCB, eChain, eRev, aCons, aNil, eTup, eLst, mkTup, mkLst, eSl, oSome, oNone, iSeq, iCall, walked, srcOf_tup, srcOf_lst, opt_some, opt_none, dAdd_ii, dInt0_ii, dLt_ii, dInt1_bl, dEq_int, dNe_int, dEq_bl, dNe_bl, bind_ok, bind_no, bind_exc, fnD, startD, endOf_rt, endOf_nx, endOf_exc, List.map_cons, List.map_nil, List.length_cons, List.length_nil, List.cons_append, List.nil_append, List.getElem?_cons_zero, List.getElem?_cons_succ, List.set_cons_zero, List.set_cons_succ, List.replicate, if_true, if_false, Bool.false_eq_true, Bool.true_eq_false, Nat.reduceAdd, Nat.reduceSub, Nat.reduceEqDiff, reduceIte, ite_self, e1, dMod_ok S (show (0 : Int) < 2 by decide), dEq_int, h2, decide_true, dFdiv_ok S (show (0 : Int) < 2 by decide) (by decide), eCel, mkCel_ok' [.int (c / 2)] S (by simp)]
    exact leaveC_app S _ rfl
  · simp only [F__law_box, sSeq, sIf, sRet, sAsg, sPar, sDrop, sNext, sPre, sWipe, Fl.wipe, wipeD, Tgt.asg, setAll, bOr, bAnd, bNot, tOfE, asB, asI, eIf, eAnd, eOr, eNot, eNeg, eVar, eC, eOp, eCB, eChain, eRev, aCons, aNil, eTup, eLst, mkTup, mkLst, eSl, oSome, oNone, iSeq, iCall, walked, srcOf_tup, srcOf_lst, opt_some, opt_none, dAdd_ii, dInt0_ii, dLt_ii, dInt1_bl, dEq_int, dNe_int, dEq_bl, dNe_bl, bind_ok, bind_no, bind_exc, fnD, startD, endOf_rt, endOf_nx, endOf_exc, List.map_cons, List.map_nil, List.length_cons, List.length_nil, List.cons_append, List.nil_append, List.getElem?_cons_zero, List.getElem?_cons_succ, List.set_cons_zero, List.set_cons_succ, List.replicate, if_true, if_false, Bool.false_eq_true, Bool.true_eq_false, Nat.reduceAdd, Nat.reduceSub, Nat.reduceEqDiff, reduceIte, ite_self, e1, dMod_ok S (show (0 : Int) < 2 by decide), dEq_int, h2, decide_false]
    obtain ⟨ρ2, S2, e2, n, e3, e4, hn⟩ := for_inv (t := .one 4) (fi := iCall rng1 (aCons (eC (.int 24)) aNil)) (body := sWipe [4] (sAsg (.one 3) (eOp dAdd (eOp dMul (eVar 3) (eC (.int 2147483647))) (eCB F__law_mix (aCons (eVar 2) (aCons (eVar 4) aNil))))))
      (its := ((List.range 24).map dN, [])) (enc := dN) (ρ := [some (.scr ns), some (dN k), some (.int c), some (.int 0), none]) (S := S) (S' := S) 24
      (fun j ρ S' => ∃ n, ρ = [some (.scr ns), some (dN k), some (.int c), some (.int n), none] ∧ S' = S ∧ bits n ≤ 32 * j) (by simp only [sSeq, sIf, sRet, sAsg, sPar, sDrop, sNext, sPre, sWipe, Fl.wipe, wipeD, Tgt.asg, setAll, bOr, bAnd, bNot, tOfE, asB, asI, eIf, eAnd, eOr, eNot, eNeg, eVar, eC, eOp, eCB, eChain, eRev, aCons, aNil, eTup, eLst, mkTup, mkLst, eSl, oSome, oNone, iSeq, iCall, walked, srcOf_tup, srcOf_lst, opt_some, opt_none, dAdd_ii, dInt0_ii, dLt_ii, dInt1_bl, dEq_int, dNe_int, dEq_bl, dNe_bl, bind_ok, bind_no, bind_exc, fnD, startD, endOf_rt, endOf_nx, endOf_exc, List.map_cons, List.map_nil, List.length_cons, List.length_nil, List.cons_append, List.nil_append, List.getElem?_cons_zero, List.getElem?_cons_succ, List.set_cons_zero, List.set_cons_succ, List.replicate, if_true, if_false, Bool.false_eq_true, Bool.true_eq_false, Nat.reduceAdd, Nat.reduceSub, Nat.reduceEqDiff, reduceIte, ite_self]; exact rng1_nat (n := 24) S (by decide)) rfl ⟨0, rfl, rfl, by decide⟩ (fun _ _ _ _ => okNil _ _) (fun j hj ρ S' hI => by
        obtain ⟨n, rfl, rfl, hn⟩ := hI
        obtain ⟨m, em, m0, m1⟩ := F_law_mix_ok (c := c) (k := j) S' hc (by omega)
        refine ⟨_, rfl, _, _, ?_, n * 2147483647 + m, rfl, rfl, ?_⟩
        · simp only [sSeq, sIf, sRet, sAsg, sPar, sDrop, sNext, sPre, sWipe, Fl.wipe, wipeD, Tgt.asg, setAll, bOr, bAnd, bNot, tOfE, asB, asI, eIf, eAnd, eOr, eNot, eNeg, eVar, eC, eOp, eCB, eChain, eRev, aCons, aNil, eTup, eLst, mkTup, mkLst, eSl, oSome, oNone, iSeq, iCall, walked, srcOf_tup, srcOf_lst, opt_some, opt_none, dAdd_ii, dInt0_ii, dLt_ii, dInt1_bl, dEq_int, dNe_int, dEq_bl, dNe_bl, bind_ok, bind_no, bind_exc, fnD, startD, endOf_rt, endOf_nx, endOf_exc, List.map_cons, List.map_nil, List.length_cons, List.length_nil, List.cons_append, List.nil_append, List.getElem?_cons_zero, List.getElem?_cons_succ, List.set_cons_zero, List.set_cons_succ, List.replicate, if_true, if_false, Bool.false_eq_true, Bool.true_eq_false, Nat.reduceAdd, Nat.reduceSub, Nat.reduceEqDiff, reduceIte, ite_self, em, dMul_ok S' (show bits n ≤ 4194304 by omega) (show bits 2147483647 ≤ 4194304 by decide), dAdd_ii]
        · have := intBits_add_le (intBits_mul_le hn (show bits 2147483647 ≤ 31 by decide)) (bits_lt m0 (by omega))
          exact Nat.le_trans this (by omega))
    refine ⟨n, ?_⟩
    rw [e2, e3, e4]
    simp only [sSeq, sIf, sRet, sAsg, sPar, sDrop, sNext, sPre, sWipe, Fl.wipe, wipeD, Tgt.asg, setAll, bOr, bAnd, bNot, tOfE, asB, asI, eIf, eAnd, eOr, eNot, eNeg, eVar, eC, eOp, eCB, eChain, eRev, aCons, aNil, eTup, eLst, mkTup, mkLst, eSl, oSome, oNone, iSeq, iCall, walked, srcOf_tup, srcOf_lst, opt_some, opt_none, dAdd_ii, dInt0_ii, dLt_ii, dInt1_bl, dEq_int, dNe_int, dEq_bl, dNe_bl, bind_ok, bind_no, bind_exc, fnD, startD, endOf_rt, endOf_nx, endOf_exc, List.map_cons, List.map_nil, List.length_cons, List.length_nil, List.cons_append, List.nil_append, List.getElem?_cons_zero, List.getElem?_cons_succ, List.set_cons_zero, List.set_cons_succ, List.replicate, if_true, if_false, Bool.false_eq_true, Bool.true_eq_false, Nat.reduceAdd, Nat.reduceSub, Nat.reduceEqDiff, reduceIte, ite_self, eCel, mkCel_ok' [.int n] S (by simp)]
    exact leaveC_app S _ rfl
theorem F_law_take_ok {n : Nat} {x m : Int} {S : Store} (hc : S[n]? = some (.lst [.int x])) (h0 : 0 < m) (h1 : m ≤ 1000000000000) : F__law_take [.ref n, .int m] S = .ok (.int (x % m)) (S.set n (.lst [.int (x / m)])) := by
  have hcell : cell S n = some [.int x] := by simp [cell, hc]
  have e1 : dIx (.ref n) (.int 0) S = .ok (.int x) S := by simp [dIx, items, hcell, atI, ixN, opt]
  have e2 : ixN [D.int x].length 0 = some 0 := rfl
  simp only [F__law_take, sSeq, sIf, sRet, sAsg, sPar, sDrop, sNext, sPre, sWipe, Fl.wipe, wipeD, Tgt.asg, setAll, bOr, bAnd, bNot, tOfE, asB, asI, eIf, eAnd, eOr, eNot, eNeg, eVar, eC, eOp, eCB, eChain, eRev, aCons, aNil, eTup, eLst, mkTup, mkLst, eSl, oSome, oNone, iSeq, iCall, walked, srcOf_tup, srcOf_lst, opt_some, opt_none, dAdd_ii, dInt0_ii, dLt_ii, dInt1_bl, dEq_int, dNe_int, dEq_bl, dNe_bl, bind_ok, bind_no, bind_exc, fnD, startD, endOf_rt, endOf_nx, endOf_exc, List.map_cons, List.map_nil, List.length_cons, List.length_nil, List.cons_append, List.nil_append, List.getElem?_cons_zero, List.getElem?_cons_succ, List.set_cons_zero, List.set_cons_succ, List.replicate, if_true, if_false, Bool.false_eq_true, Bool.true_eq_false, Nat.reduceAdd, Nat.reduceSub, Nat.reduceEqDiff, reduceIte, ite_self, e1, dDivmod, divOk_of h0 h1, sSetIx, hcell, e2]
  exact leave_len (by simp)
end Ls
namespace Ls
open PySem PySem.Spec PyProof.Rows L2
theorem leaveC_setApp {S A : Store} {xs ys : List D} {n : Nat} (hA : A = S.set n (.lst ys)) (h : belowL S.length xs = true) (hy : belowL S.length ys = true) : leaveC S (.ref S.length) (A ++ [.lst xs]) = .ok (.ref S.length) (A ++ [.lst xs]) := by
  subst hA
  have hc : cell (S.set n (.lst ys) ++ [.lst xs]) S.length = some xs := by
    have := cell_last (S.set n (.lst ys)) xs
    rwa [List.length_set] at this
  unfold leaveC
  simp only [Nat.lt_irrefl, if_false, hc]
  rw [if_pos ⟨Kept.setApp S _ n ys hy, h⟩]
  simp
theorem F_law_wide_box_ok {n : Nat} {x : Int} {S : Store} (hc : S[n]? = some (.lst [.int x])) : ∃ x' y, F__law_wide_box [.ref n] S = .ok (.ref S.length) (S.set n (.lst [.int x']) ++ [.lst [.int y]]) := by
  have r0 := Int.emod_nonneg x (show (2147483647 : Int) ≠ 0 by decide)
  have r1 := Int.emod_lt_of_pos x (show (0 : Int) < 2147483647 by decide)
  refine ⟨x / 2147483647, ?_⟩
  have hl : (S.set n (.lst [.int (x / 2147483647)])).length = S.length := by simp
  generalize hA : S.set n (.lst [.int (x / 2147483647)]) = A at hl
  simp only [F__law_wide_box, sSeq, sIf, sRet, sAsg, sPar, sDrop, sNext, sPre, sWipe, Fl.wipe, wipeD, Tgt.asg, setAll, bOr, bAnd, bNot, tOfE, asB, asI, eIf, eAnd, eOr, eNot, eNeg, eVar, eC, eOp, eCB, eChain, eRev, aCons, aNil, eTup, eLst, mkTup, mkLst, eSl, oSome, oNone, iSeq, iCall, walked, srcOf_tup, srcOf_lst, opt_some, opt_none, dAdd_ii, dInt0_ii, dLt_ii, dInt1_bl, dEq_int, dNe_int, dEq_bl, dNe_bl, bind_ok, bind_no, bind_exc, fnD, startD, endOf_rt, endOf_nx, endOf_exc, List.map_cons, List.map_nil, List.length_cons, List.length_nil, List.cons_append, List.nil_append, List.getElem?_cons_zero, List.getElem?_cons_succ, List.set_cons_zero, List.set_cons_succ, List.replicate, if_true, if_false, Bool.false_eq_true, Bool.true_eq_false, Nat.reduceAdd, Nat.reduceSub, Nat.reduceEqDiff, reduceIte, ite_self, F_law_take_ok hc (show (0 : Int) < 2147483647 by decide) (by decide), hA, sPar]
  obtain ⟨ρ2, S2, e2, a, b, e3, e4, h1, h2, h3⟩ := for_inv (t := .one 3) (fi := iCall rng1 (aCons (eC (.int 24)) aNil)) (body := sWipe [3] (sSeq (sAsg (.one 1) (eOp dMod (eOp dAdd (eOp dAdd (eOp dMul (eVar 1) (eC (.int 48271))) (eC (.int 11))) (eVar 3)) (eC (.int 2147483647))))
      (sAsg (.one 2) (eOp dAdd (eOp dMul (eVar 2) (eC (.int 2147483647))) (eVar 1)))))
    (its := ((List.range 24).map dN, [])) (enc := dN) (ρ := [some (.ref n), some (.int (x % 2147483647)), some (.int 0), none]) (S := A) (S' := A) 24
    (fun j ρ S' => ∃ a b, ρ = [some (.ref n), some (.int a), some (.int b), none] ∧ S' = A ∧ 0 ≤ a ∧ a < 2147483647 ∧ bits b ≤ 32 * j) (by simp only [sSeq, sIf, sRet, sAsg, sPar, sDrop, sNext, sPre, sWipe, Fl.wipe, wipeD, Tgt.asg, setAll, bOr, bAnd, bNot, tOfE, asB, asI, eIf, eAnd, eOr, eNot, eNeg, eVar, eC, eOp, eCB, eChain, eRev, aCons, aNil, eTup, eLst, mkTup, mkLst, eSl, oSome, oNone, iSeq, iCall, walked, srcOf_tup, srcOf_lst, opt_some, opt_none, dAdd_ii, dInt0_ii, dLt_ii, dInt1_bl, dEq_int, dNe_int, dEq_bl, dNe_bl, bind_ok, bind_no, bind_exc, fnD, startD, endOf_rt, endOf_nx, endOf_exc, List.map_cons, List.map_nil, List.length_cons, List.length_nil, List.cons_append, List.nil_append, List.getElem?_cons_zero, List.getElem?_cons_succ, List.set_cons_zero, List.set_cons_succ, List.replicate, if_true, if_false, Bool.false_eq_true, Bool.true_eq_false, Nat.reduceAdd, Nat.reduceSub, Nat.reduceEqDiff, reduceIte, ite_self]; exact rng1_nat (n := 24) A (by decide)) rfl ⟨_, _, rfl, rfl, r0, r1, by decide⟩ (fun _ _ _ _ => okNil _ _) (fun j hj ρ S' hI => by
      obtain ⟨a, b, rfl, rfl, h1, h2, h3⟩ := hI
      have q0 := Int.emod_nonneg (a * 48271 + 11 + (j : Int)) (show (2147483647 : Int) ≠ 0 by decide)
      have q1 := Int.emod_lt_of_pos (a * 48271 + 11 + (j : Int)) (show (0 : Int) < 2147483647 by decide)
      refine ⟨_, rfl, _, _, ?_, (a * 48271 + 11 + (j : Int)) % 2147483647, b * 2147483647 + (a * 48271 + 11 + (j : Int)) % 2147483647, rfl, rfl, q0, q1, ?_⟩
      · have ba : bits a ≤ 4194304 := Nat.le_trans (bits_lt h1 (by omega)) (by decide)
        have bb : bits b ≤ 4194304 := Nat.le_trans h3 (by omega)
        simp only [sSeq, sIf, sRet, sAsg, sPar, sDrop, sNext, sPre, sWipe, Fl.wipe, wipeD, Tgt.asg, setAll, bOr, bAnd, bNot, tOfE, asB, asI, eIf, eAnd, eOr, eNot, eNeg, eVar, eC, eOp, eCB, eChain, eRev, aCons, aNil, eTup, eLst, mkTup, mkLst, eSl, oSome, oNone, iSeq, iCall, walked, srcOf_tup, srcOf_lst, opt_some, opt_none, dAdd_ii, dInt0_ii, dLt_ii, dInt1_bl, dEq_int, dNe_int, dEq_bl, dNe_bl, bind_ok, bind_no, bind_exc, fnD, startD, endOf_rt, endOf_nx, endOf_exc, List.map_cons, List.map_nil, List.length_cons, List.length_nil, List.cons_append, List.nil_append, List.getElem?_cons_zero, List.getElem?_cons_succ, List.set_cons_zero, List.set_cons_succ, List.replicate, if_true, if_false, Bool.false_eq_true, Bool.true_eq_false, Nat.reduceAdd, Nat.reduceSub, Nat.reduceEqDiff, reduceIte, ite_self, dN, dMul_ok S' ba (show bits 48271 ≤ 4194304 by decide), dAdd_ii, dMod_ok S' (show (0 : Int) < 2147483647 by decide), dMul_ok S' bb (show bits 2147483647 ≤ 4194304 by decide)]
      · have := intBits_add_le (intBits_mul_le h3 (show bits 2147483647 ≤ 31 by decide)) (bits_lt q0 (by omega))
        exact Nat.le_trans this (by omega))
  refine ⟨b, ?_⟩
  rw [e2, e3, e4]
  simp only [sSeq, sIf, sRet, sAsg, sPar, sDrop, sNext, sPre, sWipe, Fl.wipe, wipeD, Tgt.asg, setAll, bOr, bAnd, bNot, tOfE, asB, asI, eIf, eAnd, eOr, eNot, eNeg, eVar, eC, eOp, eCB, eChain, eRev, aCons, aNil, eTup, eLst, mkTup, mkLst, eSl, oSome, oNone, iSeq, iCall, walked, srcOf_tup, srcOf_lst, opt_some, opt_none, dAdd_ii, dInt0_ii, dLt_ii, dInt1_bl, dEq_int, dNe_int, dEq_bl, dNe_bl, bind_ok, bind_no, bind_exc, fnD, startD, endOf_rt, endOf_nx, endOf_exc, List.map_cons, List.map_nil, List.length_cons, List.length_nil, List.cons_append, List.nil_append, List.getElem?_cons_zero, List.getElem?_cons_succ, List.set_cons_zero, List.set_cons_succ, List.replicate, if_true, if_false, Bool.false_eq_true, Bool.true_eq_false, Nat.reduceAdd, Nat.reduceSub, Nat.reduceEqDiff, reduceIte, ite_self, eCel, mkCel_ok' [.int b] A (by simp), hl]
  exact leaveC_setApp hA.symm rfl rfl
theorem setNat (n : Nat) (S : Store) (a b : Ob) : (S.set n a).set n b = S.set n b := by simp
theorem set_same {S : Store} {n : Nat} {o : Ob} (h : S[n]? = some o) : S = S.set n o := by
  obtain ⟨hn, e⟩ := List.getElem?_eq_some_iff.mp h
  rw [← e]
  simp
end Ls
namespace Ls
open PySem PySem.Spec PyProof.Rows L2
theorem app2_get0 (A : Store) (a b : Ob) : (A ++ [a, b])[A.length]? = some a := by simp
theorem app2_set0 (A : Store) (a b c : Ob) : (A ++ [a, b]).set A.length c = A ++ [c, b] := by simp
theorem app2_cell1 (A : Store) (a : Ob) (xs : List D) : cell (A ++ [a, .lst xs]) (A.length + 1) = some xs := by
  simp [cell]
theorem app2_set1 (A : Store) (a b c : Ob) : (A ++ [a, b]).set (A.length + 1) c = A ++ [a, c] := by simp
theorem dAppend_1 (A : Store) (a : Ob) (xs : List D) (y : D) (h : xs.length + 1 ≤ 1000000) : dAppend (.ref (A.length + 1)) [y] (A ++ [a, .lst xs]) = .ok .non (A ++ [a, .lst (xs ++ [y])]) := by
  simp only [dAppend, app2_cell1, small_of h, if_true, app2_set1]
theorem dTuple_1 (A : Store) (a : Ob) (xs : List D) (h : xs.length ≤ 1000000) : dTuple [.ref (A.length + 1)] (A ++ [a, .lst xs]) = .ok (.tup xs) (A ++ [a, .lst xs]) := by
  simp [dTuple, items, app2_cell1, mkTup, small_of h]
/-- lights drawn one by one -/
theorem law_row_ok {w : Nat} {dense : Int} (A : Store) (n1 n2 n3 n5 n6 : Option D) (y : Int) (rows : List D) (hw : w ≤ 1000) : ∃ (g : Nat → Bool) (y' : Int), eComp [8] (iCall rng1 (aCons (eVar 2) aNil)) (.one 8) bYes (eCB dInt1 (aCons (eOp dLt (eCB F__law_take (aCons (eVar 4) (aCons (eC (.int 6)) aNil))) (eVar 5)) aNil)) finL
      [n1, n2, some (.int (w : Int)), n3, some (.ref A.length), some (.int dense), n5, n6, none] (A ++ [.lst [.int y], .lst rows]) = .ok (.lst ((List.range w).map fun j => dB (g j))) (A ++ [.lst [.int y'], .lst rows]) := by
  obtain ⟨zs, S2, e, g, y', e1, e2⟩ := comp_inv (vs := [8]) (fi := iCall rng1 (aCons (eVar 2) aNil)) (t := .one 8) (ft := bYes) (fe := eCB dInt1 (aCons (eOp dLt (eCB F__law_take (aCons (eVar 4) (aCons (eC (.int 6)) aNil))) (eVar 5)) aNil))
    (its := ((List.range w).map dN, [])) (enc := dN) (ρ := [n1, n2, some (.int (w : Int)), n3, some (.ref A.length), some (.int dense), n5, n6, none]) (S := A ++ [.lst [.int y], .lst rows]) (S' := A ++ [.lst [.int y], .lst rows]) w
    (fun k acc S' => ∃ g y', acc = ((List.range k).map fun j => dB (g j)) ∧ S' = A ++ [.lst [.int y'], .lst rows]) (by simp only [sSeq, sIf, sRet, sAsg, sPar, sDrop, sNext, sPre, sWipe, Fl.wipe, wipeD, Tgt.asg, setAll, bOr, bAnd, bNot, tOfE, asB, asI, eIf, eAnd, eOr, eNot, eNeg, eVar, eC, eOp, eCB, eChain, eRev, aCons, aNil, eTup, eLst, mkTup, mkLst, eSl, oSome, oNone, iSeq, iCall, walked, srcOf_tup, srcOf_lst, opt_some, opt_none, dAdd_ii, dInt0_ii, dLt_ii, dInt1_bl, dEq_int, dNe_int, dEq_bl, dNe_bl, bind_ok, bind_no, bind_exc, fnD, startD, endOf_rt, endOf_nx, endOf_exc, List.map_cons, List.map_nil, List.length_cons, List.length_nil, List.cons_append, List.nil_append, List.getElem?_cons_zero, List.getElem?_cons_succ, List.set_cons_zero, List.set_cons_succ, List.replicate, if_true, if_false, Bool.false_eq_true, Bool.true_eq_false, Nat.reduceAdd, Nat.reduceSub, Nat.reduceEqDiff, reduceIte, ite_self]; exact rng1_nat _ (by omega)) rfl ⟨fun _ => false, y, rfl, rfl⟩
    (fun k acc S' hI => ⟨okNil _ _, by obtain ⟨g, y', rfl, _⟩ := hI; simp⟩) (by omega) (fun k hk acc S' hI => by
      obtain ⟨g, y', rfl, rfl⟩ := hI
      refine ⟨_, rfl, true, _, rfl, .inl ⟨rfl, dB (decide (y' % 6 < dense)), A ++ [.lst [.int (y' / 6)], .lst rows], ?_, fun i => if i = k then decide (y' % 6 < dense) else g i, _, ?_, rfl⟩⟩
      · simp only [sSeq, sIf, sRet, sAsg, sPar, sDrop, sNext, sPre, sWipe, Fl.wipe, wipeD, Tgt.asg, setAll, bOr, bAnd, bNot, tOfE, asB, asI, eIf, eAnd, eOr, eNot, eNeg, eVar, eC, eOp, eCB, eChain, eRev, aCons, aNil, eTup, eLst, mkTup, mkLst, eSl, oSome, oNone, iSeq, iCall, walked, srcOf_tup, srcOf_lst, opt_some, opt_none, dAdd_ii, dInt0_ii, dLt_ii, dInt1_bl, dEq_int, dNe_int, dEq_bl, dNe_bl, bind_ok, bind_no, bind_exc, fnD, startD, endOf_rt, endOf_nx, endOf_exc, List.map_cons, List.map_nil, List.length_cons, List.length_nil, List.cons_append, List.nil_append, List.getElem?_cons_zero, List.getElem?_cons_succ, List.set_cons_zero, List.set_cons_succ, List.replicate, if_true, if_false, Bool.false_eq_true, Bool.true_eq_false, Nat.reduceAdd, Nat.reduceSub, Nat.reduceEqDiff, reduceIte, ite_self, F_law_take_ok (app2_get0 A _ _) (show (0 : Int) < 6 by decide) (by decide), app2_set0, dLt_ii, dInt1_bl]
      · rw [List.range_succ, List.map_append]
        congr 1
        · refine List.map_congr_left fun i hi => ?_
          have : i ≠ k := by have := List.mem_range.mp hi; omega
          simp [this]
        · simp)
  exact ⟨g, y', by rw [e, e1, e2]⟩
theorem map_snoc {α : Type} (k : Nat) (F G : Nat → α) (y : α) (h : ∀ i, i < k → F i = G i) (hy : y = G k) : (List.range k).map F ++ [y] = (List.range (k + 1)).map G := by
  rw [List.range_succ, List.map_append, map_range_congr h, hy]
  rfl
theorem rep_row (h : Nat) (d : D) : (List.replicate h [d]).flatten = (List.range h).map fun _ => d := by
  induction h with
  | zero => rfl
  | succ h ih => rw [List.replicate_succ', List.flatten_append, ih, List.range_succ, List.map_append]; rfl
end Ls
namespace Ls
open PySem PySem.Spec PyProof.Rows L2
/-! ### one box at the head of the store -/
theorem take1 {x m : Int} (h0 : 0 < m) (h1 : m ≤ 1000000000000) : F__law_take [.ref 0, .int m] [.lst [.int x]] = .ok (.int (x % m)) [.lst [.int (x / m)]] := F_law_take_ok rfl h0 h1
theorem size1 (x : Int) (m : Int) (h0 : 0 < m) (h8 : m ≤ 8) : ∃ h : Nat, 1 + x % m = (h : Int) ∧ S8 h := by
  have r0 := Int.emod_nonneg x (show m ≠ 0 by omega)
  have r1 := Int.emod_lt_of_pos x h0
  exact ⟨(1 + x % m).toNat, by omega, by unfold S8; omega⟩
theorem regE_cut {S1 : Store} {ρ : Rho} {k : Rho → Fl} (h : frzE 0 S1 ρ = some ρ) : regE [] ρ S1 k = .ok (k ρ) [] := by
  unfold regE
  by_cases hl : S1.length = ([] : Store).length
  · rw [if_pos hl]
    have : S1 = [] := List.eq_nil_of_length_eq_zero hl
    rw [this]
  · rw [if_neg hl, if_pos ⟨Nat.zero_le _, fun m o h => absurd h (Nat.not_lt_zero m)⟩]
    simp [h]
/-- how many turns a law takes -/
theorem turns (n : Nat) (c : Int) (hc : 1 ≤ c) (h8 : c ≤ 100) (S : Store) : ∃ m : Nat, (eCB dMax2 (aCons (eC (.int 1)) (aCons (eCB dMin2 (aCons (eC (.int (n : Int))) (aCons (eC (.int c)) aNil))) aNil))) [] S = .ok (.int (m : Int)) S ∧ m ≤ 100 := by
  refine ⟨(if (if c < (n : Int) then c else n) > 1 then (if c < (n : Int) then c else n) else 1 : Int).toNat, ?_, ?_⟩
  · simp only [sSeq, sIf, sRet, sAsg, sPar, sDrop, sNext, sPre, sWipe, Fl.wipe, wipeD, Tgt.asg, setAll, bOr, bAnd, bNot, tOfE, asB, asI, eIf, eAnd, eOr, eNot, eNeg, eVar, eC, eOp, eCB, eChain, eRev, aCons, aNil, eTup, eLst, mkTup, mkLst, eSl, oSome, oNone, iSeq, iCall, walked, srcOf_tup, srcOf_lst, opt_some, opt_none, dAdd_ii, dInt0_ii, dLt_ii, dInt1_bl, dEq_int, dNe_int, dEq_bl, dNe_bl, bind_ok, bind_no, bind_exc, fnD, startD, endOf_rt, endOf_nx, endOf_exc, List.map_cons, List.map_nil, List.length_cons, List.length_nil, List.cons_append, List.nil_append, List.getElem?_cons_zero, List.getElem?_cons_succ, List.set_cons_zero, List.set_cons_succ, List.replicate, if_true, if_false, Bool.false_eq_true, Bool.true_eq_false, Nat.reduceAdd, Nat.reduceSub, Nat.reduceEqDiff, reduceIte, ite_self, dMax2, dMin2, d2I]
    congr 2
    split <;> split <;> omega
  · split <;> split <;> omega
/-! ### sums -/
theorem sum_map_add (l : List Nat) (f g : Nat → Int) : (l.map fun i => f i + g i).sum = (l.map f).sum + (l.map g).sum := by
  induction l with
  | nil => rfl
  | cons x r ih => simp only [List.map_cons, List.sum_cons, ih]; omega
theorem sum_swap (l m : List Nat) (f : Nat → Nat → Int) : (l.map fun i => (m.map fun j => f i j).sum).sum = (m.map fun j => (l.map fun i => f i j).sum).sum := by
  induction l with
  | nil => simp; induction m with
    | nil => rfl
    | cons x r ih => simpa using ih
  | cons x r ih => simp only [List.map_cons, List.sum_cons, ih, sum_map_add]
theorem lit_turn (h w : Nat) (f : Nat → Nat → Bool) : ((List.range w).map fun j => rsum h fun i => f i j).sum = lit h w f := (sum_swap _ _ fun i j => b2i (f i j)).symm
theorem dSum_I (n : Nat) (g : Nat → Int) (S : Store) : dSum [dI n g] S = .ok (.int ((List.range n).map g).sum) S := dSum_tup _ _ S
/-! ### switchings -/
theorem sw_sw (f : Nat → Nat → Bool) (p q p' q' : Nat → Bool) : sw (sw f p q) p' q' = sw f (fun i => p i ^^ p' i) fun j => q j ^^ q' j := by
  funext i j
  simp only [sw]
  cases f i j <;> cases p i <;> cases q j <;> cases p' i <;> cases q' j <;> rfl
theorem sw_twice (f : Nat → Nat → Bool) (p q : Nat → Bool) : sw (sw f p q) p q = f := by
  funext i j
  simp only [sw]
  cases f i j <;> cases p i <;> cases q j <;> rfl
theorem sw_contrary (f : Nat → Nat → Bool) (p q : Nat → Bool) : sw f (fun i => !p i) (fun j => !q j) = sw f p q := by
  funext i j
  simp only [sw]
  cases f i j <;> cases p i <;> cases q j <;> rfl
theorem Sw_inj {h w : Nat} {p q p' q' : Nat → Bool} (e : dSw h w p q = dSw h w p' q') : (∀ i, i < h → p i = p' i) ∧ ∀ j, j < w → q j = q' j := by
  unfold dSw at e
  simp only [D.tup.injEq, List.cons.injEq, and_true] at e
  exact ⟨L_inj e.1, L_inj e.2⟩
theorem same_iff {h w : Nat} (f : Nat → Nat → Bool) (p q p' q' : Nat → Bool) (hh : S8 h) (hw : S8 w) : (dSw h w p q = dSw h w p' q' ∨ dSw h w (fun i => !p i) (fun j => !q j) = dSw h w p' q') ↔ dM h w (sw f p q) = dM h w (sw f p' q') := by
  constructor
  · rintro (e | e)
    · obtain ⟨e1, e2⟩ := Sw_inj e
      exact M_congr fun i j hi hj => by simp only [sw, e1 i hi, e2 j hj]
    · obtain ⟨e1, e2⟩ := Sw_inj e
      refine M_congr fun i j hi hj => ?_
      have a := e1 i hi
      have b := e2 j hj
      simp only [sw, ← a, ← b]
      cases f i j <;> cases p i <;> cases q j <;> rfl
  · intro e
    have k := M_inj e
    have h0 := hh.1
    have w0 := hw.1
    have key : ∀ i j, i < h → j < w → (p i ^^ q j) = (p' i ^^ q' j) := fun i j hi hj => by
      have := k i j hi hj
      simp only [sw] at this
      revert this
      cases f i j <;> cases p i <;> cases q j <;> cases p' i <;> cases q' j <;> simp
    by_cases hp : p 0 = p' 0
    · left
      have hq : ∀ j, j < w → q j = q' j := fun j hj => by
        have := key 0 j h0 hj
        rw [hp] at this
        revert this
        cases q j <;> cases q' j <;> cases p' 0 <;> simp
      refine Sw_congr (fun i hi => ?_) hq
      have := key i 0 hi w0
      rw [hq 0 w0] at this
      revert this
      cases p i <;> cases p' i <;> cases q' 0 <;> simp
    · right
      have hq : ∀ j, j < w → (!q j) = q' j := fun j hj => by
        have := key 0 j h0 hj
        revert this hp
        cases q j <;> cases q' j <;> cases p' 0 <;> cases p 0 <;> simp
      refine Sw_congr (fun i hi => ?_) hq
      have := key i 0 hi w0
      have h2 := hq 0 w0
      revert this h2
      cases p i <;> cases p' i <;> cases q 0 <;> cases q' 0 <;> simp
theorem dRev_Sw (h w : Nat) (p q : Nat → Bool) (S : Store) : dRev (dSw h w p q) S = .ok (dSw w h q p) S := rfl
end Ls
namespace Ls
open PySem PySem.Spec PyProof.Rows L2
/-! ### any thing looked at -/
mutual
def plain : D → Bool
  | .non => true
  | .bl _ => true
  | .int _ => true
  | .str _ => true
  | .emp => true
  | .tup xs => plainL xs
  | .lst xs => plainL xs
  | _ => false
def plainL : List D → Bool
  | [] => true
  | d :: r => plain d && plainL r
end
theorem plainL_iff {xs : List D} : plainL xs = true ↔ ∀ d, d ∈ xs → plain d = true := by
  induction xs with
  | nil => simp [plainL]
  | cons x r ih => simp [plainL, ih]
theorem plain_ty {d : D} (h : plain d = true) : ∃ n, tyName d = some n := by
  cases d <;> first | exact ⟨_, rfl⟩ | simp [plain] at h
def isBt (a b : Int) : D → Bool
  | .int i => decide (a ≤ i) && decide (i ≤ b)
  | _ => false
def isLight : D → Bool := isBt 0 1
def isRowD : D → Bool
  | .tup xs => decide (1 ≤ xs.length) && decide (xs.length ≤ 8) && xs.all isLight
  | _ => false
def lenD : D → Nat
  | .tup xs => xs.length
  | .lst xs => xs.length
  | _ => 0
def isBoardD : D → Bool
  | .tup xs => decide (1 ≤ xs.length) && decide (xs.length ≤ 8) && xs.all isRowD && xs.all fun r => decide (lenD r = lenD (xs.headD .non))
  | _ => false
theorem isi_tup {d : D} (h : plain d = true) (S : Store) : dIsi [d, .ty "tuple"] S = .ok (.bl (match d with | .tup _ => true | _ => false)) S := by
  cases d <;> first | rfl | simp [plain] at h
theorem len_tup (xs : List D) (S : Store) : dLen [.tup xs] S = .ok (.int xs.length) S := rfl
theorem row_len {d : D} (h : isRowD d = true) (S : Store) : dLen [d] S = .ok (.int (lenD d)) S := by
  cases d <;> first | rfl | simp [isRowD] at h
/-! ### what is no board -/
theorem board_all {xs : List D} (h : isBoardD (.tup xs) = true) : (∀ r, r ∈ xs → isRowD r = true) ∧ (∀ r s, r ∈ xs → s ∈ xs → lenD r = lenD s) ∧ xs.length ≤ 8 := by
  simp only [isBoardD, Bool.and_eq_true, List.all_eq_true, decide_eq_true_eq] at h
  exact ⟨h.1.2, fun r s hr hs => by rw [h.2 r hr, h.2 s hs], h.1.1.2⟩
theorem noBoard_row {xs : List D} {r : D} (hr : r ∈ xs) (h : isRowD r = false) : isBoardD (.tup xs) = false := by
  cases e : isBoardD (.tup xs) with
  | false => rfl
  | true => rw [(board_all e).1 r hr] at h; cases h
theorem noBoard_len {xs : List D} {r s : D} (hr : r ∈ xs) (hs : s ∈ xs) (h : lenD r ≠ lenD s) : isBoardD (.tup xs) = false := by
  cases e : isBoardD (.tup xs) with
  | false => rfl
  | true => exact absurd ((board_all e).2.1 r s hr hs) h
theorem noBoard_many {xs : List D} (h : 8 < xs.length) : isBoardD (.tup xs) = false := by
  cases e : isBoardD (.tup xs) with
  | false => rfl
  | true => exact absurd (board_all e).2.2 (by omega)
theorem noRow_light {xs : List D} {d : D} (hd : d ∈ xs) (h : isLight d = false) : isRowD (.tup xs) = false := by
  cases e : isRowD (.tup xs) with
  | false => rfl
  | true =>
    simp only [isRowD, Bool.and_eq_true, List.all_eq_true] at e
    rw [e.2 d hd] at h
    cases h
theorem noRow_many {xs : List D} (h : 8 < xs.length) : isRowD (.tup xs) = false := by
  have : ¬ xs.length ≤ 8 := by omega
  simp only [isRowD, this, decide_false, Bool.and_false, Bool.false_and]
theorem cut_take (xs : List D) (k : Nat) : cutD xs none (some (k : Int)) = xs.take k := by
  unfold cutD
  simp only [HT.sIx_none, List.drop_zero, Nat.sub_zero]
  rw [HT.sIx_nat]
  by_cases h : k ≤ xs.length
  · rw [Nat.min_eq_left h]
  · rw [Nat.min_eq_right (by omega), List.take_length, List.take_of_length_le (by omega)]
theorem cut_drop (xs : List D) (k : Nat) : cutD xs (some (k : Int)) none = xs.drop k := by
  unfold cutD
  rw [HT.sIx_none, HT.sIx_nat]
  by_cases h : k ≤ xs.length
  · rw [Nat.min_eq_left h, List.take_of_length_le (by simp)]
  · rw [Nat.min_eq_right (by omega), List.drop_eq_nil_of_le (show xs.length ≤ k by omega)]
    simp
theorem cut_drop1 (xs : List D) (k : Nat) : cutD xs (some ((k : Int) + 1)) none = xs.drop (k + 1) := by
  rw [← cut_drop]
  rfl
theorem plain_dB (b : Bool) : plain (dB b) = true := rfl
theorem plain_row (w : Nat) (g : Nat → Bool) : plain (rowD w g) = true := by
  simp only [rowD, plain]
  exact plainL_iff.mpr fun d hd => by
    obtain ⟨j, _, rfl⟩ := List.mem_map.mp hd
    rfl
theorem plain_M (h w : Nat) (f : Nat → Nat → Bool) : plain (dM h w f) = true := by
  simp only [dM, plain]
  exact plainL_iff.mpr fun d hd => by
    obtain ⟨j, _, rfl⟩ := List.mem_map.mp hd
    exact plain_row w _
theorem lenD_row (w : Nat) (g : Nat → Bool) : lenD (rowD w g) = w := by simp [lenD, rowD]
/-- a list with one put otherwise -/
def putD (xs : List D) (i : Nat) (d : D) : List D := xs.take i ++ [d] ++ xs.drop (i + 1)
theorem mem_put (xs : List D) (i : Nat) (d : D) : d ∈ putD xs i d := by simp [putD]
theorem plain_put {xs : List D} {i : Nat} {d : D} (h : plainL xs = true) (hd : plain d = true) : plainL (putD xs i d) = true := by
  have hx := plainL_iff.mp h
  refine plainL_iff.mpr fun e he => ?_
  simp only [putD, List.mem_append, List.mem_singleton] at he
  rcases he with (he | rfl) | he
  · exact hx e (List.mem_of_mem_take he)
  · exact hd
  · exact hx e (List.mem_of_mem_drop he)
theorem put_len {xs : List D} {i : Nat} {d : D} (h : i < xs.length) : (putD xs i d).length = xs.length := by
  simp only [putD, List.length_append, List.length_take, List.length_singleton, List.length_drop]
  omega
theorem put_other {xs : List D} {i j : Nat} {d : D} (hj : j < xs.length) (hne : j ≠ i) : xs[j] ∈ putD xs i d := by
  simp only [putD, List.mem_append, List.mem_singleton]
  by_cases h : j < i
  · exact .inl (.inl (List.mem_take_iff_getElem.mpr ⟨j, by omega, rfl⟩))
  · refine .inr (List.mem_iff_getElem.mpr ⟨j - (i + 1), by simp; omega, ?_⟩)
    simp only [List.getElem_drop]
    congr 1
    omega
theorem small_put {xs : List D} {i : Nat} {d : D} (h : xs.length ≤ 100) : small (xs.take i ++ [d]).length = true ∧ small (xs.take i ++ [d] ++ xs.drop (i + 1)).length = true := by
  refine ⟨small_of ?_, small_of ?_⟩ <;> simp <;> omega
theorem take_nat {n m : Nat} {x : Int} {S : Store} (hc : S[n]? = some (.lst [.int x])) (h0 : 0 < m) (h1 : m ≤ 1000000) : ∃ (k : Nat) (x' : Int), F__law_take [.ref n, .int (m : Int)] S = .ok (.int (k : Int)) (S.set n (.lst [.int x'])) ∧ k < m := by
  have r0 := Int.emod_nonneg x (show (m : Int) ≠ 0 by omega)
  have r1 := Int.emod_lt_of_pos x (show (0 : Int) < m by omega)
  refine ⟨(x % (m : Int)).toNat, x / m, ?_, by omega⟩
  rw [F_law_take_ok hc (by omega) (by omega)]
  congr 2
  omega
theorem box_set {n : Nat} {x x' : Int} {S : Store} (hc : S[n]? = some (.lst [.int x])) : (S.set n (.lst [.int x']))[n]? = some (.lst [.int x']) := by
  have hn : n < S.length := (List.getElem?_eq_some_iff.mp hc).1
  simp [hn]
theorem dIx_lst {xs : List D} {k : Nat} (S : Store) (h : k < xs.length) : dIx (.lst xs) (.int (k : Int)) S = .ok xs[k] S := by
  simp [dIx, items, atI_nat (List.getElem?_eq_getElem h)]
end Ls
namespace Ls
open PySem PySem.Spec PyProof.Rows L2
def odds : List D := [.int 2, .int (-1), .bl true, .bl false, .non, .str "0", .tup [.int 0], .int (10 ^ 29), .lst [.int 0], .emp]
theorem odds_ok : ∀ d, d ∈ odds → plain d = true ∧ isLight d = false := by
  intro d hd
  simp only [odds, List.mem_cons, List.not_mem_nil, or_false] at hd
  rcases hd with rfl | rfl | rfl | rfl | rfl | rfl | rfl | rfl | rfl | rfl <;> exact ⟨rfl, rfl⟩
theorem mul8 (S : Store) : dMul (.tup [.int 0]) (.int 8) S = .ok (.tup (List.replicate 8 (.int 0))) S := rfl
theorem mul9 (d : D) (S : Store) : dMul (.tup [d]) (.int 9) S = .ok (.tup [d, d, d, d, d, d, d, d, d]) S := rfl
theorem pow29 (S : Store) : dPow (.int 10) (.int 29) S = .ok (.int (10 ^ 29)) S := rfl
def someR (R : List D) (j : Nat) (odd : D) : List D := [.tup (putD R j odd), .tup (putD R j odd), .tup (putD R j odd), .tup (R ++ List.replicate 8 (.int 0)), .tup [], .lst R, .non, .int 1]
def moreR (R : List D) : List D := [.tup R.dropLast, .tup (R ++ [.int 0])]
theorem add_ll (xs ys : List D) (S : Store) : dAdd (.lst xs) (.lst ys) S = mkLst (xs ++ ys) S := rfl
theorem addT {xs ys : List D} (S : Store) (h : xs.length + ys.length ≤ 1000000) : dAdd (.tup xs) (.tup ys) S = .ok (.tup (xs ++ ys)) S := by
  simp only [dAdd, mkTup, List.length_append, small_of h, if_true]
theorem addL {xs ys : List D} (S : Store) (h : xs.length + ys.length ≤ 1000000) : dAdd (.lst xs) (.lst ys) S = .ok (.lst (xs ++ ys)) S := by
  simp only [dAdd, mkLst, List.length_append, small_of h, if_true]
theorem list_row (w : Nat) (g : Nat → Bool) (S : Store) (hw : w ≤ 1000) : dList [rowD w g] S = .ok (.lst ((List.range w).map fun j => dB (g j))) S := by
  simp [dList, rowD, items, mkLst, small_of (show w ≤ 1000000 by omega)]
theorem list_M (h w : Nat) (f : Nat → Nat → Bool) (S : Store) (hw : h ≤ 1000) : dList [dM h w f] S = .ok (.lst ((List.range h).map fun i => rowD w (f i))) S := by
  simp [dList, dM, items, mkLst, small_of (show h ≤ 1000000 by omega)]
/-- a board's row, a light put otherwise or the row itself -/
structure BadRow (h w : Nat) (d : D) : Prop where
  pl : plain d = true
  no : isRowD d = false ∨ (1 < h ∧ lenD d ≠ w)
theorem put_noBoard {h w i : Nat} {f : Nat → Nat → Bool} {d : D} (hi : i < h) (b : BadRow h w d) : plain (.tup (putD ((List.range h).map fun i => rowD w (f i)) i d)) = true ∧ isBoardD (.tup (putD ((List.range h).map fun i => rowD w (f i)) i d)) = false := by
  have hp : plainL ((List.range h).map fun i => rowD w (f i)) = true := by simpa [plain, dM] using plain_M h w f
  refine ⟨by simpa [plain] using plain_put hp b.pl, ?_⟩
  rcases b.no with h1 | ⟨h1, h2⟩
  · exact noBoard_row (mem_put _ _ _) h1
  · have hj : ∃ j, j < h ∧ j ≠ i := ⟨if i = 0 then 1 else 0, by split <;> omega, by split <;> omega⟩
    obtain ⟨j, hj, hne⟩ := hj
    have := put_other (xs := (List.range h).map fun i => rowD w (f i)) (i := i) (j := j) (d := d) (by simpa using hj) hne
    simp only [List.getElem_map, List.getElem_range] at this
    refine noBoard_len (mem_put _ _ _) this ?_
    rw [lenD_row]
    exact h2
end Ls
namespace Ls
open PySem PySem.Spec PyProof.Rows L2
/-! ### texts of things -/
mutual
def shw : Nat → D → Bool
  | _, .non => true
  | _, .bl _ => true
  | _, .int i => Nat.blt i.natAbs (10 ^ 30)
  | k + 1, .tup xs => shwL k xs
  | k + 1, .lst xs => shwL k xs
  | _, _ => false
def shwL : Nat → List D → Bool
  | _, [] => true
  | k, d :: r => shw k d && shwL k r
end
mutual
def wt : D → Nat
  | .non => 4
  | .bl _ => 5
  | .int i => if i.natAbs < 10 then 2 else if i.natAbs < 1000000000 then 10 else 31
  | .tup xs => wtL xs + 4
  | .lst xs => wtL xs + 4
  | _ => 0
def wtL : List D → Nat
  | [] => 0
  | d :: r => wt d + 2 + wtL r
end
theorem strOk_app (a b : Str) : PyData.strOk (a ++ b) = (PyData.strOk a && PyData.strOk b) := by
  show (a.cps ++ b.cps).all _ = _
  rw [Array.all_append]
  rfl
theorem strOk_of (s : String) : PyData.strOk (Str.ofString s) = true := by
  rw [Str.ofString_eq_toList]
  simp only [PyData.strOk, List.all_toArray, List.all_map, List.all_eq_true, Function.comp_apply, decide_eq_true_eq]
  intro c _
  have := c.valid
  simp only [UInt32.isValidChar, Nat.isValidChar] at this
  show c.val.toNat < _
  omega
theorem strOk_join {ts : List Str} (h : ∀ t, t ∈ ts → PyData.strOk t = true) : PyData.strOk (Str.join ", " ts) = true := by
  match ts, h with
  | [], _ => exact (show PyData.strOk Str.empty = true by decide +kernel)
  | [x], h => exact h x (by simp)
  | x :: y :: r, h =>
    show PyData.strOk (x ++ Str.ofString ", " ++ Str.join ", " (y :: r)) = true
    rw [strOk_app, strOk_app, h x (by simp), strOk_of, strOk_join (fun t ht => h t (by simp at ht ⊢; right; exact ht))]
    rfl
theorem join_le (ts : List Str) : (Str.join ", " ts).length ≤ piled ts := by
  cases ts with
  | nil => exact Nat.le_refl _
  | cons x r =>
    have := join_length_add (x :: r) (by simp)
    omega
theorem tuple_le (ts : List Str) : (tupleText ts).length ≤ piled ts + 3 := by
  unfold tupleText
  rw [strLen_append, strLen_append]
  have e1 : ((("(" : String) : Str)).length = 1 := rfl
  have e3 : (((if ts.length == 1 then ",)" else ")" : String) : Str)).length ≤ 2 := by split <;> decide
  have := join_le ts
  rw [e1]
  omega
theorem tuple_strOk {ts : List Str} (h : ∀ t, t ∈ ts → PyData.strOk t = true) : PyData.strOk (tupleText ts) = true := by
  unfold tupleText
  rw [strOk_app, strOk_app, strOk_of, strOk_join h, strOk_of]
  rfl
theorem textFrom_le : ∀ (ts : List Str) (k : Nat) (acc : Str), (textFrom k acc ts).length ≤ acc.length + piled ts
  | [], k, acc => by show acc.length ≤ _; simp [piled]
  | t :: r, k, acc => by
    have := textFrom_le r (k + 1) (acc ++ (if k > 0 then ", " else "" : String) ++ t)
    have e : (acc ++ (if k > 0 then ", " else "" : String) ++ t).length ≤ acc.length + 2 + t.length := by
      rw [strLen_append, strLen_append]
      have : ((if k > 0 then ", " else "" : String) : Str).length ≤ 2 := by split <;> decide
      omega
    show (textFrom (k + 1) _ r).length ≤ _
    rw [piled_cons]
    omega
theorem textFrom_strOk : ∀ (ts : List Str) (k : Nat) (acc : Str), PyData.strOk acc = true → (∀ t, t ∈ ts → PyData.strOk t = true) → PyData.strOk (textFrom k acc ts) = true
  | [], k, acc, h, _ => h
  | t :: r, k, acc, h, ht => by
    refine textFrom_strOk r (k + 1) _ ?_ fun u hu => ht u (List.mem_cons_of_mem _ hu)
    rw [strOk_app, strOk_app, h, strOk_of, ht t (by simp)]
    rfl
theorem list_le (ts : List Str) : (listText ts).length ≤ piled ts + 2 := by
  unfold listText
  rw [strLen_append]
  have := textFrom_le ts 0 "["
  have e1 : ((("[" : String) : Str)).length = 1 := rfl
  have e2 : ((("]" : String) : Str)).length = 1 := rfl
  omega
theorem list_strOk {ts : List Str} (h : ∀ t, t ∈ ts → PyData.strOk t = true) : PyData.strOk (listText ts) = true := by
  unfold listText
  rw [strOk_app, textFrom_strOk ts 0 _ (strOk_of _) h, strOk_of]
  rfl
structure Sh (k : Nat) (d : D) (x : PyData) : Prop where
  pd : pd d = some x
  sh : x.showable = true
  nd : x.hasDict = false
  dp : x.depth ≤ k
  le : x.shown.length ≤ wt d
  ok : PyData.strOk x.shown = true
structure ShL (k : Nat) (ds : List D) (xs : List PyData) : Prop where
  pd : pdL ds = some xs
  sh : PyData.showableAll xs = true
  nd : PyData.hasDictAll xs = false
  dp : PyData.depthAll xs ≤ k
  le : piled (PyData.shownAll xs) ≤ wtL ds
  ok : ∀ t, t ∈ PyData.shownAll xs → PyData.strOk t = true
mutual
theorem shw_sh : ∀ {k : Nat} {d : D}, shw k d = true → ∃ x, Sh k d x
  | k, .non, _ => ⟨.none, rfl, rfl, rfl, Nat.zero_le _, Nat.le_refl _, strOk_of "None"⟩
  | k, .bl true, _ => ⟨.bool true, rfl, rfl, rfl, Nat.zero_le _, by decide, strOk_of "True"⟩
  | k, .bl false, _ => ⟨.bool false, rfl, rfl, rfl, Nat.zero_le _, by decide, strOk_of "False"⟩
  | k, .int i, h => by
    have h' : i.natAbs < 10 ^ 30 := by simpa [shw] using h
    refine ⟨.int i, rfl, ?_, rfl, Nat.zero_le _, ?_, ?_⟩
    · simp only [PyData.showable, decide_eq_true_eq]
      by_cases h0 : i.natAbs = 0
      · rw [h0]; decide
      · rw [Nat.log2_lt h0]
        exact Nat.lt_of_lt_of_le h' (Nat.le_trans (show 10 ^ 30 ≤ 2 ^ 100 by decide) (Nat.pow_le_pow_right (by decide) (by decide)))
    · simp only [PyData.shown, PySem.ofString_length, wt]
      split
      · exact int_text_length_le10 (k := 1) (by decide) (by simpa using ‹i.natAbs < 10›)
      · split
        · exact int_text_length_le10 (k := 9) (by decide) (by simpa using ‹i.natAbs < 1000000000›)
        · exact int_text_length_le10 (by decide) h'
    · simp only [PyData.shown]
      exact strOk_of _
  | k + 1, .tup xs, h => by
    obtain ⟨ys, s⟩ := shwL_sh (k := k) (ds := xs) (by simpa [shw] using h)
    refine ⟨.tuple ys, by simp [pd, s.pd], by simpa [PyData.showable] using s.sh, by simpa [PyData.hasDict] using s.nd, by simpa [PyData.depth] using s.dp, ?_, ?_⟩
    · simp only [PyData.shown, wt]
      have := tuple_le (PyData.shownAll ys)
      have := s.le
      omega
    · simp only [PyData.shown]
      exact tuple_strOk s.ok
  | k + 1, .lst xs, h => by
    obtain ⟨ys, s⟩ := shwL_sh (k := k) (ds := xs) (by simpa [shw] using h)
    refine ⟨.list ys, by simp [pd, s.pd], by simpa [PyData.showable] using s.sh, by simpa [PyData.hasDict] using s.nd, by simpa [PyData.depth] using s.dp, ?_, ?_⟩
    · simp only [PyData.shown, wt]
      have := list_le (PyData.shownAll ys)
      have := s.le
      omega
    · simp only [PyData.shown]
      exact list_strOk s.ok
  | 0, .tup xs, h => by simp [shw] at h
  | 0, .lst xs, h => by simp [shw] at h
  | k, .str _, h => by simp [shw] at h
  | k, .scr _, h => by simp [shw] at h
  | k, .ref _, h => by simp [shw] at h
  | k, .gl _, h => by simp [shw] at h
  | k, .emp, h => by simp [shw] at h
  | k, .ty _, h => by simp [shw] at h
  | k, .err _ _, h => by simp [shw] at h
theorem shwL_sh : ∀ {k : Nat} {ds : List D}, shwL k ds = true → ∃ xs, ShL k ds xs
  | k, [], _ => ⟨[], rfl, rfl, rfl, Nat.zero_le _, Nat.le_refl _, fun _ h => nomatch h⟩
  | k, d :: ds, h => by
    have h' : shw k d = true ∧ shwL k ds = true := by simpa [shwL] using h
    obtain ⟨x, s1⟩ := shw_sh h'.1
    obtain ⟨xs, s2⟩ := shwL_sh h'.2
    refine ⟨x :: xs, by simp [pdL, s1.pd, s2.pd], by simp [PyData.showableAll, s1.sh, s2.sh], by simp [PyData.hasDictAll, s1.nd, s2.nd], ?_, ?_, ?_⟩
    · have := s1.dp
      have := s2.dp
      simp [PyData.depthAll]
      omega
    · simp only [PyData.shownAll, piled_cons, wtL]
      have := s1.le
      have := s2.le
      omega
    · intro t ht
      simp only [PyData.shownAll, List.mem_cons] at ht
      rcases ht with rfl | ht
      · exact s1.ok
      · exact s2.ok t ht
end
theorem shwL_iff {k : Nat} {xs : List D} : shwL k xs = true ↔ ∀ d, d ∈ xs → shw k d = true := by
  induction xs with
  | nil => simp [shwL]
  | cons x r ih => simp [shwL, ih]
theorem wtL_le {xs : List D} {m : Nat} (h : ∀ d, d ∈ xs → wt d ≤ m) : wtL xs ≤ xs.length * (m + 2) := by
  induction xs with
  | nil => simp [wtL]
  | cons x r ih =>
    have := h x (by simp)
    have := ih fun d hd => h d (List.mem_cons_of_mem _ hd)
    simp only [wtL, List.length_cons, Nat.succ_mul]
    omega
theorem pdS_pd {d : D} {x : PyData} (S : Store) (h : pd d = some x) : pdS S d = some x := by
  cases d <;> first | exact h | simp [pd] at h
/-- repr of a thing, and of the same thing -/
theorem repr_ok {d : D} (h : shw 50 d = true) (hw : wt d ≤ 1000000) : ∃ t, (∀ S, dRepr [d] S = .ok (.str t) S) ∧ (∀ S, dNe (.str t) (.str t) S = .ok (.bl false) S) ∧ ∀ (S : Store) (n : Nat) (xs : List D), d = .lst xs → S[n]? = some (.lst xs) → dRepr [.ref n] S = .ok (.str t) S := by
  obtain ⟨x, s⟩ := shw_sh h
  have ok : okRepr x = true := by
    simp only [okRepr, s.sh, s.nd, Bool.not_false, Bool.true_and, Bool.and_eq_true, Nat.ble_eq]
    exact ⟨s.dp, small_of (Nat.le_trans s.le hw)⟩
  refine ⟨x.shown, fun S => ?_, fun S => dNe_same S (by simpa [tidy] using s.ok), fun S n xs e hS => ?_⟩
  · simp only [dRepr, pdS_pd S s.pd, ok, if_true]
  · subst e
    have : pdS S (.ref n) = some x := by
      simp only [pdS, hS]
      have := s.pd
      simpa [pd] using this
    simp only [dRepr, this, ok, if_true]
theorem shw_dB (k : Nat) (b : Bool) : shw k (dB b) = true := by cases b <;> cases k <;> rfl
theorem wt_dB (b : Bool) : wt (dB b) = 2 := by cases b <;> rfl
theorem shw_row (k w : Nat) (g : Nat → Bool) : shw (k + 1) (rowD w g) = true := by
  simp only [rowD, shw]
  exact shwL_iff.mpr fun d hd => by
    obtain ⟨j, _, rfl⟩ := List.mem_map.mp hd
    exact shw_dB _ _
theorem wt_row {w : Nat} (g : Nat → Bool) (hw : w ≤ 8) : wt (rowD w g) ≤ 36 := by
  simp only [rowD, wt]
  have := wtL_le (xs := (List.range w).map fun j => dB (g j)) (m := 2) fun d hd => by
    obtain ⟨j, _, rfl⟩ := List.mem_map.mp hd
    exact Nat.le_of_eq (wt_dB _)
  simp only [List.length_map, List.length_range] at this
  omega
theorem shw_M (h w : Nat) (f : Nat → Nat → Bool) : shw 50 (dM h w f) = true := by
  simp only [dM, shw]
  exact shwL_iff.mpr fun d hd => by
    obtain ⟨j, _, rfl⟩ := List.mem_map.mp hd
    exact shw_row _ _ _
theorem wt_M {h w : Nat} (f : Nat → Nat → Bool) (hh : h ≤ 8) (hw : w ≤ 8) : wt (dM h w f) ≤ 1000000 := by
  simp only [dM, wt]
  have := wtL_le (xs := (List.range h).map fun i => rowD w (f i)) (m := 36) fun d hd => by
    obtain ⟨j, _, rfl⟩ := List.mem_map.mp hd
    exact wt_row _ hw
  simp only [List.length_map, List.length_range] at this
  omega
theorem repr_M {h w : Nat} (f : Nat → Nat → Bool) (hh : S8 h) (hw : S8 w) : ∃ t, (∀ S, dRepr [dM h w f] S = .ok (.str t) S) ∧ ∀ S, dNe (.str t) (.str t) S = .ok (.bl false) S := by
  obtain ⟨t, e1, e2, _⟩ := repr_ok (shw_M h w f) (wt_M f hh.2 hw.2)
  exact ⟨t, e1, e2⟩
theorem repr_int {i : Int} (h : i.natAbs < 10 ^ 30) : ∃ t, (∀ S, dRepr [.int i] S = .ok (.str t) S) ∧ ∀ S, dNe (.str t) (.str t) S = .ok (.bl false) S := by
  obtain ⟨t, e1, e2, _⟩ := repr_ok (d := .int i) (by simpa [shw] using h) (by simp only [wt]; split <;> first | decide | (split <;> decide))
  exact ⟨t, e1, e2⟩
end Ls
namespace Ls
open PySem PySem.Spec PyProof.Rows L2
/-! ### forms -/
theorem frzE_below {n : Nat} {S : Store} : ∀ {ρ : Rho}, (∀ d, some d ∈ ρ → below n d = true) → frzE n S ρ = some ρ
  | [], _ => rfl
  | none :: r, h => by
    simp only [frzE, frzE_below (ρ := r) fun d hd => h d (List.mem_cons_of_mem _ hd)]
    rfl
  | some d :: r, h => by
    simp only [frzE, frz_below (S := S) (h d (by simp)), frzE_below (ρ := r) fun d hd => h d (List.mem_cons_of_mem _ hd)]
theorem regE_below {S S1 : Store} {ρ : Rho} {k : Rho → Fl} (hk : Kept S S1) (h : ∀ d, some d ∈ ρ → below S.length d = true) : regE S ρ S1 k = .ok (k ρ) (S1.take S.length) := by
  unfold regE
  by_cases hl : S1.length = S.length
  · rw [if_pos hl, ← hl, List.take_length]
  · rw [if_neg hl, if_pos hk, frzE_below h]
theorem dAppend_0 (A : Store) (b : Ob) (xs : List D) (y : D) (h : xs.length + 1 ≤ 1000000) : dAppend (.ref A.length) [y] (A ++ [.lst xs, b]) = .ok .non (A ++ [.lst (xs ++ [y]), b]) := by
  have : cell (A ++ [.lst xs, b]) A.length = some xs := by simp [cell]
  simp only [dAppend, this, small_of h, if_true, app2_set0]
theorem enumI_row (w : Nat) (g : Nat → Bool) (S : Store) : enumI [rowD w g] S = .ok ((List.range w).map fun i => .tup [dN i, dB (g i)], []) S := by
  simp only [enumI, rowD, srcOf, enum_map]
theorem zipI_rows (w : Nat) (g k : Nat → Bool) (S : Store) : zipI [rowD w g, rowD w k] S = .ok ((List.range w).map fun j => .tup [dB (g j), dB (k j)], []) S := by
  simp only [zipI, rowD, srcOf, zip_map, List.append_nil]
theorem mod3 (a b c : Bool) : (b2i a + b2i b + b2i c) % 2 = b2i (a ^^ b ^^ c) := by cases a <;> cases b <;> cases c <;> rfl
theorem mod4 (a b c d : Bool) : (b2i a + b2i b + b2i c + b2i d) % 2 = b2i (a ^^ b ^^ c ^^ d) := by cases a <;> cases b <;> cases c <;> cases d <;> rfl
theorem dec_b1 (b : Bool) : decide (b2i b = 1) = b := by cases b <;> rfl
theorem dec_bb (a b : Bool) : (!decide (b2i a = b2i b)) = (a ^^ b) := by cases a <;> cases b <;> rfl
theorem filter_small {n : Nat} (p : Nat → Bool) (hn : n ≤ 1000) : (((List.range n).filter p).map dN).length ≤ 1000000 := by
  have := List.length_filter_le p (List.range n)
  simp at this ⊢
  omega
/-! ### a board switched by the law -/
end Ls
namespace Ls
open PySem PySem.Spec PyProof.Rows L2
/-! ### loops that change nothing -/
theorem forL_same {t : Tgt} {body : SS} {xs0 : List D} {ρ : Rho} {S : Store} : ∀ (xs : List D), (∀ d, d ∈ xs → ∃ ρ', t.asg d ρ = some ρ' ∧ body ρ' S = .ok (.nx ρ) S) → forL t body (xs0, []) xs ρ S = .ok (.nx ρ) S
  | [], _ => by simp only [forL, if_pos (okNil xs0 S)]
  | d :: r, h => by
    obtain ⟨ρ', e1, e2⟩ := h d (by simp)
    simp only [forL, if_pos (okNil xs0 S), e1, opt_some, bind_ok, e2]
    exact forL_same r fun d hd => h d (List.mem_cons_of_mem _ hd)
theorem for_same {t : Tgt} {fi : SI} {body : SS} {ρ : Rho} {S S' : Store} (xs : List D) (hi : fi ρ S = .ok (xs, []) S') (h : ∀ d, d ∈ xs → ∃ ρ', t.asg d ρ = some ρ' ∧ body ρ' S' = .ok (.nx ρ) S') : sFor t fi body ρ S = .ok (.nx ρ) S' := by
  unfold sFor
  rw [hi, bind_ok]
  exact forL_same xs h
theorem said_exc {i : Nat} {tab : Str → Option (List D → Store → Res D)} {fa : SA} {F : List D → Store → Res D} {x : Str} {ρ : Rho} {S S' : Store} {ds : List D} {z w : Str} (h1 : ρ[i]? = some (some (.gl x))) (h2 : tab x = some F) (h3 : fa ρ S = .ok ds S) (h4 : F ds S = .exc z [] S') (h5 : kdT z [] = some w) : eSaid kdT (eCallL i tab fa) ρ S = .ok (.str w) S' := by
  have e : eCallL i tab fa ρ S = .exc z [] S' := by
    simp only [eCallL, h1, h2, h3, bind_ok, h4]
  simp only [eSaid, e, h5]
theorem ne_board (S : Store) : dNe (.str "! board") (.str "! board") S = .ok (.bl false) S := dNe_same S (by decide +kernel)
theorem ne_switching (S : Store) : dNe (.str "! switching") (.str "! switching") S = .ok (.bl false) S := dNe_same S (by decide +kernel)
theorem ne_line (S : Store) : dNe (.str "! line") (.str "! line") S = .ok (.bl false) S := dNe_same S (by decide +kernel)
theorem ne_unlike (S : Store) : dNe (.str "! unlike") (.str "! unlike") S = .ok (.bl false) S := dNe_same S (by decide +kernel)
theorem ne_number (S : Store) : dNe (.str "! number") (.str "! number") S = .ok (.bl false) S := dNe_same S (by decide +kernel)
theorem kd_board : kdT "NoBoard" [] = some ("! board" : Str) := by decide +kernel
theorem kd_line : kdT "NoLine" [] = some ("! line" : Str) := by decide +kernel
theorem kd_switching : kdT "NoSwitching" [] = some ("! switching" : Str) := by decide +kernel
theorem kd_number : kdT "NoNumber" [] = some ("! number" : Str) := by decide +kernel
theorem kd_unlike : kdT "Unlike" [] = some ("! unlike" : Str) := by decide +kernel
theorem kd_net : kdT "NoNet" [] = some ("! net" : Str) := by decide +kernel
theorem kd_place : kdT "NoPlace" [] = some ("! place" : Str) := by decide +kernel
theorem kd_text : kdT "NoText" [] = some ("! text" : Str) := by decide +kernel
theorem kd_row : kdT "NoRow" [] = some ("! row" : Str) := by decide +kernel
end Ls
namespace Ls
open PySem PySem.Spec PyProof.Rows L2
/-! ### what is no lot, no switching -/
theorem zip_pairs (a b : List Nat) : zipD (a.map dN) (b.map dN) = (a.zip b).map fun p => .tup [dN p.1, dN p.2] := by
  induction a generalizing b with
  | nil => simp [zipD]
  | cons x xs ih => cases b with
    | nil => simp [zipD]
    | cons y ys => simp [zipD, ih]
theorem not_rising {l : List Nat} (i : Nat) (h : i + 1 < l.length) (hn : ¬ l[i] < l[i + 1]) : ((l.dropLast.zip l.tail).all fun p => decide (p.1 < p.2)) = false := by
  cases q : ((l.dropLast.zip l.tail).all fun p => decide (p.1 < p.2)) with
  | false => rfl
  | true =>
    have := List.all_eq_true.mp q (l[i], l[i + 1]) (List.mem_iff_getElem.mpr ⟨i, by simp; omega, by simp⟩)
    exact absurd (by simpa using this) hn
def oddsL (m : Nat) : List D := [.int m, .int (-1), .bl true, .non, .str "0", .tup [.int 0], .int (10 ^ 29), .bl false, .lst [.int 0], .emp]
theorem oddsL_ok {m : Nat} (hm : m ≤ 8) : ∀ d, d ∈ oddsL m → plain d = true ∧ isBt 0 ((m : Int) - 1) d = false := by
  intro d hd
  simp only [oddsL, List.mem_cons, List.not_mem_nil, or_false] at hd
  rcases hd with rfl | rfl | rfl | rfl | rfl | rfl | rfl | rfl | rfl | rfl <;> first | exact ⟨rfl, rfl⟩ | (refine ⟨rfl, ?_⟩; simp only [isBt, Bool.and_eq_false_iff, decide_eq_false_iff_not]; omega)
theorem tupR_ok {m : Nat} (S : Store) (h : m ≤ 1000000) : dTupR (.int (m : Int)) S = .ok (.tup ((List.range m).map dN)) S := by
  have : tameB (m : Int) = true := by simp [tameB]; omega
  simp only [dTupR, this, if_true, Int.toNat_natCast, rangeD_eq]
/-- what is no switching of a size -/
theorem plain_L (n : Nat) (p : Nat → Bool) : plain (dL n p) = true := by
  simp only [dL, plain]
  exact plainL_iff.mpr fun d hd => by
    obtain ⟨j, _, rfl⟩ := List.mem_map.mp hd
    rfl
theorem plain_Sw (h w : Nat) (p q : Nat → Bool) : plain (dSw h w p q) = true := by simp [dSw, plain, plainL, plain_L]
/-! ### lots in texts -/
theorem shw_N (k n : Nat) (h : n ≤ 1000000) : shw k (dN n) = true := by
  have : Nat.blt (n : Int).natAbs (10 ^ 30) = true := by
    simp only [Int.natAbs_natCast, Nat.blt_eq]
    exact Nat.lt_of_le_of_lt h (by decide)
  cases k <;> simpa [shw, dN] using this
theorem wt_N {n : Nat} (h : n < 10) : wt (dN n) = 2 := by
  simp only [dN, wt, Int.natAbs_natCast, h, if_true]
theorem shw_L (k n : Nat) (p : Nat → Bool) (hn : n ≤ 8) : shw (k + 1) (dL n p) = true := by
  simp only [dL, shw]
  exact shwL_iff.mpr fun d hd => by
    obtain ⟨j, hj, rfl⟩ := List.mem_map.mp hd
    have := (mem_filter_range.mp hj).1
    exact shw_N _ _ (by omega)
theorem wt_L {n : Nat} (p : Nat → Bool) (hn : n ≤ 8) : wt (dL n p) ≤ 36 := by
  simp only [dL, wt]
  have := wtL_le (xs := ((List.range n).filter p).map dN) (m := 2) fun d hd => by
    obtain ⟨j, hj, rfl⟩ := List.mem_map.mp hd
    have := (mem_filter_range.mp hj).1
    exact Nat.le_of_eq (wt_N (by omega))
  have l := List.length_filter_le p (List.range n)
  simp only [List.length_map, List.length_range] at this l
  omega
theorem repr_Sw {h w : Nat} (p q : Nat → Bool) (hh : S8 h) (hw : S8 w) : ∃ t, (∀ S, dRepr [dSw h w p q] S = .ok (.str t) S) ∧ ∀ S, dNe (.str t) (.str t) S = .ok (.bl false) S := by
  obtain ⟨t, e1, e2, _⟩ := repr_ok (d := dSw h w p q) (by simp [dSw, shw, shwL, shw_L _ _ _ hh.2, shw_L _ _ _ hw.2]) (by
    have := wt_L p hh.2
    have := wt_L q hw.2
    simp only [dSw, wt, wtL]
    omega)
  exact ⟨t, e1, e2⟩
theorem repr_L {n : Nat} (p : Nat → Bool) (hn : S8 n) : ∃ t, (∀ S, dRepr [dL n p] S = .ok (.str t) S) ∧ ∀ S, dNe (.str t) (.str t) S = .ok (.bl false) S := by
  obtain ⟨t, e1, e2, _⟩ := repr_ok (d := dL n p) (shw_L _ _ _ hn.2) (by have := wt_L p hn.2; omega)
  exact ⟨t, e1, e2⟩
theorem repr_bl (b : Bool) : ∃ t, (∀ S, dRepr [.bl b] S = .ok (.str t) S) ∧ ∀ S, dNe (.str t) (.str t) S = .ok (.bl false) S := by
  obtain ⟨t, e1, e2, _⟩ := repr_ok (d := .bl b) rfl (by simp [wt])
  exact ⟨t, e1, e2⟩
theorem L_all (n : Nat) : D.tup ((List.range n).map dN) = dL n fun _ => true := by
  unfold dL
  rw [List.filter_eq_self.mpr fun _ _ => rfl]
theorem tupR_L {m : Nat} (S : Store) (h : m ≤ 1000000) : dTupR (.int (m : Int)) S = .ok (dL m fun _ => true) S := by rw [tupR_ok S h, L_all]
theorem L_none (n : Nat) : D.tup [] = dL n fun _ => false := by simp [dL]
theorem isN_false (b : Bool) (S : Store) : dIsN (.bl b) (.bl false) S = .ok (.bl b) S := by cases b <;> rfl
/-- the texts of switchings, of lots, of truths -/
theorem texts_Sw {h w : Nat} (hh : S8 h) (hw : S8 w) : ∃ tf : (Nat → Bool) → (Nat → Bool) → Str, (∀ p q S, dRepr [dSw h w p q] S = .ok (.str (tf p q)) S) ∧ ∀ p q S, dNe (.str (tf p q)) (.str (tf p q)) S = .ok (.bl false) S :=
  ⟨fun p q => Classical.choose (repr_Sw p q hh hw), fun p q => (Classical.choose_spec (repr_Sw p q hh hw)).1, fun p q => (Classical.choose_spec (repr_Sw p q hh hw)).2⟩
theorem texts_M {h w : Nat} (hh : S8 h) (hw : S8 w) : ∃ tf : (Nat → Nat → Bool) → Str, (∀ f S, dRepr [dM h w f] S = .ok (.str (tf f)) S) ∧ ∀ f S, dNe (.str (tf f)) (.str (tf f)) S = .ok (.bl false) S :=
  ⟨fun f => Classical.choose (repr_M f hh hw), fun f => (Classical.choose_spec (repr_M f hh hw)).1, fun f => (Classical.choose_spec (repr_M f hh hw)).2⟩
theorem texts_L {n : Nat} (hn : S8 n) : ∃ tf : (Nat → Bool) → Str, (∀ p S, dRepr [dL n p] S = .ok (.str (tf p)) S) ∧ ∀ p S, dNe (.str (tf p)) (.str (tf p)) S = .ok (.bl false) S :=
  ⟨fun p => Classical.choose (repr_L p hn), fun p => (Classical.choose_spec (repr_L p hn)).1, fun p => (Classical.choose_spec (repr_L p hn)).2⟩
theorem texts_bl : ∃ tf : Bool → Str, (∀ b S, dRepr [.bl b] S = .ok (.str (tf b)) S) ∧ ∀ b S, dNe (.str (tf b)) (.str (tf b)) S = .ok (.bl false) S :=
  ⟨fun p => Classical.choose (repr_bl p), fun p => (Classical.choose_spec (repr_bl p)).1, fun p => (Classical.choose_spec (repr_bl p)).2⟩
theorem isN_true (b : Bool) (S : Store) : dIsN (.bl b) (.bl true) S = .ok (.bl (!b)) S := by cases b <;> rfl
theorem for_things {t : Tgt} {fi : SI} {body : SS} {ρ : Rho} {S S' : Store} (xs : List D) (I : Rho → Store → Prop) (hi : fi ρ S = .ok (xs, []) S') (h0 : I ρ S')
    (h : ∀ d, d ∈ xs → ∀ ρ S, I ρ S → ∃ ρ', t.asg d ρ = some ρ' ∧ ∃ ρ2 S2, body ρ' S = .ok (.nx ρ2) S2 ∧ I ρ2 S2) : ∃ ρ2 S2, sFor t fi body ρ S = .ok (.nx ρ2) S2 ∧ I ρ2 S2 := by
  obtain ⟨ρ2, S2, e, hI⟩ := forL_inv (t := t) (body := body) (its := (xs, [])) (enc := fun d => d) I xs ρ S' (fun _ _ _ => okNil _ _) h h0
  refine ⟨ρ2, S2, ?_, hI⟩
  unfold sFor
  rw [hi, bind_ok]
  simpa using e
theorem list_L (n : Nat) (p : Nat → Bool) (S : Store) (hn : n ≤ 1000) : dList [dL n p] S = .ok (.lst (((List.range n).filter p).map dN)) S := by
  simp only [dList, dL, items, mkLst, small_of (filter_small p hn), if_true]
end Ls
namespace Ls
open PySem PySem.Spec PyProof.Rows L2
/-! ### counts of columns -/
theorem sum_bd {α : Type} (l : List α) (f : α → Int) (B : Nat) (h : ∀ x, x ∈ l → 0 ≤ f x ∧ f x ≤ B) : 0 ≤ (l.map f).sum ∧ (l.map f).sum ≤ l.length * B := by
  induction l with
  | nil => simp
  | cons x r ih =>
    have := h x (by simp)
    have := ih fun y hy => h y (List.mem_cons_of_mem _ hy)
    simp only [List.map_cons, List.sum_cons, List.length_cons]
    rw [Int.natCast_add, Int.add_mul]
    omega
theorem rsum_bd (n : Nat) (g : Nat → Bool) : 0 ≤ rsum n g ∧ rsum n g ≤ n := by
  have := sum_bd (List.range n) (fun j => b2i (g j)) 1 fun j _ => by cases g j <;> simp [b2i]
  simpa [rsum] using this
theorem rsum_succ (n : Nat) (g : Nat → Bool) : rsum (n + 1) g = rsum n g + b2i (g n) := by
  simp [rsum, List.range_succ]
/-- how many are lit in a column, rows switched -/
def cnt (h : Nat) (f : Nat → Nat → Bool) (p : Nat → Bool) (j : Nat) : Int := rsum h fun i => f i j ^^ p i
theorem cnt_bd (h : Nat) (f : Nat → Nat → Bool) (p : Nat → Bool) (j : Nat) : 0 ≤ cnt h f p j ∧ cnt h f p j ≤ h := rsum_bd _ _
theorem mulL0 (w : Nat) (S : Store) (hw : w ≤ 1000) : dMul (.lst [.int 0]) (.int (w : Int)) S = .ok (.lst ((List.range w).map fun _ => .int 0)) S := by
  have : (small ([D.int 0].length * (w : Int).toNat) && Nat.ble (w : Int).natAbs 1000000) = true := by
    simp only [List.length_singleton, Bool.and_eq_true, Nat.ble_eq]
    exact ⟨small_of (by omega), by omega⟩
  simp only [dMul]
  rw [if_pos this, Int.toNat_natCast, rep_row]
theorem zipI_lr (w : Nat) (k : Nat → D) (g : Nat → Bool) (S : Store) : zipI [.lst ((List.range w).map k), rowD w g] S = .ok ((List.range w).map fun j => .tup [k j, dB (g j)], []) S := by
  simp only [zipI, rowD, srcOf, zip_map, List.append_nil]
theorem enumI_l (w : Nat) (k : Nat → D) (S : Store) : enumI [.lst ((List.range w).map k)] S = .ok ((List.range w).map fun j => .tup [dN j, k j], []) S := by
  simp only [enumI, srcOf, enum_map]
theorem bits_small {i : Int} (h0 : 0 ≤ i) (h1 : i ≤ 1000) : bits i ≤ 4194304 := Nat.le_trans (bits_lt h0 (by omega)) (by decide)
/-- how many are left with some rows switched -/
def leftW (h w : Nat) (f : Nat → Nat → Bool) (p : Nat → Bool) : Int := ((List.range w).map fun j => if (h : Int) - cnt h f p j < cnt h f p j then (h : Int) - cnt h f p j else cnt h f p j).sum
theorem leftW_bd {h w : Nat} (f : Nat → Nat → Bool) (p : Nat → Bool) (hw : w ≤ 8) : 0 ≤ leftW h w f p ∧ leftW h w f p ≤ 8 * h := by
  have := sum_bd (List.range w) (fun j => if (h : Int) - cnt h f p j < cnt h f p j then (h : Int) - cnt h f p j else cnt h f p j) h fun j _ => by
    have := cnt_bd h f p j
    split <;> omega
  simp only [List.length_range] at this
  unfold leftW
  refine ⟨this.1, Int.le_trans this.2 ?_⟩
  exact Int.mul_le_mul_of_nonneg_right (by omega) (by omega)
theorem texts_int : ∃ tf : Int → Str, (∀ i S, i.natAbs < 1000000000 → dRepr [.int i] S = .ok (.str (tf i)) S) ∧ ∀ i S, i.natAbs < 1000000000 → dNe (.str (tf i)) (.str (tf i)) S = .ok (.bl false) S := by
  have h : ∀ i : Int, ∃ t, i.natAbs < 1000000000 → (∀ S, dRepr [.int i] S = .ok (.str t) S) ∧ ∀ S, dNe (.str t) (.str t) S = .ok (.bl false) S := fun i => by
    by_cases hi : i.natAbs < 1000000000
    · obtain ⟨t, a, b⟩ := repr_int (i := i) (Nat.lt_trans hi (by decide))
      exact ⟨t, fun _ => ⟨a, b⟩⟩
    · exact ⟨Str.empty, fun h => absurd h hi⟩
  exact ⟨fun i => Classical.choose (h i), fun i S hi => (Classical.choose_spec (h i) hi).1 S, fun i S hi => (Classical.choose_spec (h i) hi).2 S⟩
end Ls
namespace Ls
open PySem PySem.Spec PyProof.Rows L2
/-! ### boards alike -/
theorem put_map {n i : Nat} (F : Nat → D) (d : D) (h : i < n) : putD ((List.range n).map F) i d = (List.range n).map fun k => if k = i then d else F k := by
  apply List.ext_getElem
  · rw [put_len (by simpa using h)]
    simp
  · intro k h1 h2
    have hk : k < n := by simpa using h2
    simp only [putD, List.getElem_map, List.getElem_range]
    by_cases hki : k < i
    · rw [List.getElem_append_left (by simp; omega), List.getElem_append_left (by simp; omega)]
      simp [show k ≠ i by omega]
    · by_cases e : k = i
      · subst e
        rw [List.getElem_append_left (by simp; omega), List.getElem_append_right (by simp; omega)]
        simp
      · rw [List.getElem_append_right (by simp; omega)]
        simp [e]
        congr 1
        omega
theorem dIn_L0 {n : Nat} (p : Nat → Bool) (S : Store) (h : 1 ≤ n) : dIn (.int 0) (dL n p) S = .ok (.bl (p 0)) S := dIn_L (i := 0) S h
theorem rng2_1 {n : Nat} (S : Store) (h1 : 1 ≤ n) (h : n ≤ 1000) : rng2 [.int 1, .int (n : Int)] S = .ok (((List.range (n - 1)).map (· + 1)).map dN, []) S := by
  have t : (tameB 1 && tameB (n : Int)) = true := by simp [tameB]; omega
  simp only [rng2, t, if_true]
  have e : ((n : Int) - 1).toNat = n - 1 := by omega
  rw [e, rangeD_from, List.map_map]
  congr 2
  apply List.map_congr_left
  intro k _
  simp [dN]
  omega
theorem filter_from1 {n : Nat} (p : Nat → Bool) (h1 : 1 ≤ n) (h0 : p 0 = false) : ((List.range (n - 1)).map (· + 1)).filter p = (List.range n).filter p := by
  obtain ⟨m, rfl⟩ : ∃ m, n = m + 1 := ⟨n - 1, by omega⟩
  rw [List.range_succ_eq_map, List.filter_cons_of_neg (by simp [h0])]
  rfl
open Classical in /-- the switching without row 0 that makes a board of another, or None -/
noncomputable def betw (h w : Nat) (f : Nat → Nat → Bool) (h' w' : Nat) (g : Nat → Nat → Bool) : D :=
  if h = h' ∧ w = w' then (if dM h w (sw f (fun i => f i 0 ^^ (f 0 0 ^^ g 0 0) ^^ g i 0) fun j => f 0 j ^^ g 0 j) = dM h w g then dSw h w (fun i => f i 0 ^^ (f 0 0 ^^ g 0 0) ^^ g i 0) (fun j => f 0 j ^^ g 0 j) else .non) else .non
theorem betw_is (h w : Nat) (f : Nat → Nat → Bool) (h' w' : Nat) (g : Nat → Nat → Bool) : betw h w f h' w' g = .non ∨ ∃ p q, betw h w f h' w' g = dSw h w p q := by
  unfold betw
  split
  · split
    · exact .inr ⟨_, _, rfl⟩
    · exact .inl rfl
  · exact .inl rfl
open Classical in theorem dNe_M {h w : Nat} (f g : Nat → Nat → Bool) (S : Store) : dNe (dM h w f) (dM h w g) S = .ok (.bl (!decide (dM h w f = dM h w g))) S := (eqD_tidy S (tM _ _ _) (tM _ _ _)).trans (by simp only [if_true])
open Classical in theorem dEq_M {h w : Nat} (f g : Nat → Nat → Bool) (S : Store) : dEq (dM h w f) (dM h w g) S = .ok (.bl (decide (dM h w f = dM h w g))) S := (eqD_tidy S (tM _ _ _) (tM _ _ _)).trans (by simp only [Bool.false_eq_true, if_false])
theorem dIx_MN {h w i : Nat} {f : Nat → Nat → Bool} (S : Store) (hi : i < h) : dIx (dM h w f) (dN i) S = .ok (rowD w (f i)) S := dIx_M S hi
theorem isN_non {d : D} (S : Store) {h w : Nat} (hd : d = .non ∨ ∃ p q, d = dSw h w p q) : ∃ b, dIsN d .non S = .ok (.bl b) S := by
  rcases hd with rfl | ⟨p, q, rfl⟩
  · exact ⟨false, rfl⟩
  · exact ⟨true, rfl⟩
/-- a light turned -/
def turn1 (f : Nat → Nat → Bool) (a b : Nat) : Nat → Nat → Bool := fun i j => if i = a ∧ j = b then !f i j else f i j
theorem one_sub (b : Bool) : (1 : Int) - b2i b = b2i (!b) := by cases b <;> rfl
theorem slT (xs : List D) (k : Nat) (S : Store) : dSlice (.tup xs) none (some (k : Int)) S = .ok (.tup (xs.take k)) S := by simp only [dSlice, cut_take]
theorem slD (xs : List D) (k : Nat) (S : Store) : dSlice (.tup xs) (some ((k : Int) + 1)) none S = .ok (.tup (xs.drop (k + 1))) S := by simp only [dSlice, cut_drop1]
theorem put_add {xs : List D} {k : Nat} {d : D} (S : Store) (hl : xs.length ≤ 100) : ((dAdd (.tup (xs.take k)) (.tup [d]) S).bind fun x S => dAdd x (.tup (xs.drop (k + 1))) S) = .ok (.tup (putD xs k d)) S := by
  rw [addT S (by simp; omega), bind_ok, addT S (by simp; omega)]
  rfl
theorem turn_row {w b : Nat} (f : Nat → Nat → Bool) (a : Nat) (hb : b < w) : D.tup (putD ((List.range w).map fun j => dB (f a j)) b (dB (!f a b))) = rowD w (turn1 f a b a) := by
  rw [put_map _ _ hb]
  unfold rowD
  congr 1
  apply List.map_congr_left
  intro j _
  unfold turn1
  by_cases e : j = b
  · simp [e]
  · simp [e]
theorem turn_M {h w a b : Nat} (f : Nat → Nat → Bool) (ha : a < h) (hb : b < w) : D.tup (putD ((List.range h).map fun i => rowD w (f i)) a (rowD w (turn1 f a b a))) = dM h w (turn1 f a b) := by
  rw [put_map _ _ ha]
  unfold dM
  congr 1
  apply List.map_congr_left
  intro i _
  by_cases e : i = a
  · simp [e]
  · simp only [e, if_false]
    congr 1
    funext j
    simp [turn1, e]
theorem repr_betw {h w : Nat} {d : D} (hh : S8 h) (hw : S8 w) (hd : d = .non ∨ ∃ p q, d = dSw h w p q) : ∃ t, (∀ S, dRepr [d] S = .ok (.str t) S) ∧ ∀ S, dNe (.str t) (.str t) S = .ok (.bl false) S := by
  rcases hd with rfl | ⟨p, q, rfl⟩
  · obtain ⟨t, e1, e2, _⟩ := repr_ok (d := .non) rfl (by simp [wt])
    exact ⟨t, e1, e2⟩
  · exact repr_Sw p q hh hw
end Ls
namespace Ls
open PySem PySem.Spec PyProof.Rows L2
/-! ### means -/
def mn (i j : Int) : Int := if j < i then j else i
def chs (n : Nat) : Nat → Int
  | 0 => 1
  | k + 1 => chs n k * ((n : Int) - k) / (k + 1)
theorem chs_bd : ∀ n, n < 9 → ∀ k, k < 9 → 0 ≤ chs n k ∧ chs n k ≤ 70 := by decide +kernel
theorem bits_na {i : Int} (h : i.natAbs < 1000000000) : bits i ≤ 4194304 := by
  refine Nat.le_trans (intBits_le_iff.mpr (?_ : i.natAbs < 2 ^ 31)) (by decide)
  have : (2 : Nat) ^ 31 = 2147483648 := by decide
  omega
theorem dMul_s {i j : Int} (S : Store) (hi : i.natAbs < 1000000000) (hj : j.natAbs < 1000000000) : dMul (.int i) (.int j) S = .ok (.int (i * j)) S := dMul_ok S (bits_na hi) (bits_na hj)
def csumTo (l h : Int) (o : Nat) : Nat → Int
  | 0 => 0
  | k + 1 => csumTo l h o k + chs o k * mn (l + k) (h - l - k)
theorem while_gcd {u v : Option D} (S : Store) : ∀ (n : Nat) (x y : Int), 0 ≤ x → 1 ≤ y → y ≤ n → ∀ fuel, n + 2 ≤ fuel → ∃ g : Int, 1 ≤ g ∧ g ≤ y ∧
    whileL (tOfE (eOp dGt (eVar 3) (eC (.int 0)))) (sPar 2 3 (aCons (eVar 3) (aCons (eOp dMod (eVar 2) (eVar 3)) aNil))) fuel [u, v, some (.int x), some (.int y)] S = .ok (.nx [u, v, some (.int g), some (.int 0)]) S := by
  intro n
  induction n with
  | zero => intro x y _ h1 h2; omega
  | succ n ih =>
    intro x y h0 h1 h2 fuel hf
    obtain ⟨f, rfl⟩ : ∃ f, fuel = f + 2 := ⟨fuel - 2, by omega⟩
    have r0 := Int.emod_nonneg x (show y ≠ 0 by omega)
    have r1 := Int.emod_lt_of_pos x (show 0 < y by omega)
    have c1 : decide ((0 : Int) < y) = true := decide_eq_true (by omega)
    by_cases hz : x % y = 0
    · refine ⟨y, h1, Int.le_refl _, ?_⟩
      simp only [whileL, sSeq, sIf, sRet, sAsg, sPar, sDrop, sNext, sPre, sWipe, Fl.wipe, wipeD, Tgt.asg, setAll, bOr, bAnd, bNot, tOfE, asB, asI, eIf, eAnd, eOr, eNot, eNeg, eVar, eC, eOp, eCB, eChain, eRev, aCons, aNil, eTup, eLst, mkTup, mkLst, eSl, oSome, oNone, iSeq, iCall, walked, srcOf_tup, srcOf_lst, opt_some, opt_none, dAdd_ii, dInt0_ii, dLt_ii, dInt1_bl, dEq_int, dNe_int, dEq_bl, dNe_bl, bind_ok, bind_no, bind_exc, fnD, startD, endOf_rt, endOf_nx, endOf_exc, List.map_cons, List.map_nil, List.length_cons, List.length_nil, List.cons_append, List.nil_append, List.getElem?_cons_zero, List.getElem?_cons_succ, List.set_cons_zero, List.set_cons_succ, List.replicate, if_true, if_false, Bool.false_eq_true, Bool.true_eq_false, Nat.reduceAdd, Nat.reduceSub, Nat.reduceEqDiff, reduceIte, ite_self, dGt, c1, dMod_ok S (show 0 < y by omega), hz, Int.lt_irrefl, decide_false]
    · obtain ⟨g, g1, g2, e⟩ := ih y (x % y) (by omega) (by omega) (by omega) (f + 1) (by omega)
      refine ⟨g, g1, by omega, ?_⟩
      rw [← e]
      conv => lhs; unfold whileL
      simp only [sSeq, sIf, sRet, sAsg, sPar, sDrop, sNext, sPre, sWipe, Fl.wipe, wipeD, Tgt.asg, setAll, bOr, bAnd, bNot, tOfE, asB, asI, eIf, eAnd, eOr, eNot, eNeg, eVar, eC, eOp, eCB, eChain, eRev, aCons, aNil, eTup, eLst, mkTup, mkLst, eSl, oSome, oNone, iSeq, iCall, walked, srcOf_tup, srcOf_lst, opt_some, opt_none, dAdd_ii, dInt0_ii, dLt_ii, dInt1_bl, dEq_int, dNe_int, dEq_bl, dNe_bl, bind_ok, bind_no, bind_exc, fnD, startD, endOf_rt, endOf_nx, endOf_exc, List.map_cons, List.map_nil, List.length_cons, List.length_nil, List.cons_append, List.nil_append, List.getElem?_cons_zero, List.getElem?_cons_succ, List.set_cons_zero, List.set_cons_succ, List.replicate, if_true, if_false, Bool.false_eq_true, Bool.true_eq_false, Nat.reduceAdd, Nat.reduceSub, Nat.reduceEqDiff, reduceIte, ite_self, dGt, c1, dMod_ok S (show 0 < y by omega)]
theorem cs_bd : ∀ h : Nat, h < 9 → 0 ≤ csumTo 0 h h (h + 1) ∧ csumTo 0 h h (h + 1) ≤ 2048 := by decide +kernel
theorem shl1 {h : Nat} (S : Store) (hh : h ≤ 1000) : dShl (.int 1) (.int (h : Int)) S = .ok (.int (2 ^ h)) S := by
  have p : powOk 1 (h : Int) = true := by
    simp only [powOk, Bool.and_eq_true, decide_eq_true_eq, Nat.ble_eq]
    omega
  simp only [dShl, dInt, p, if_true, Int.toNat_natCast, Int.one_mul]
theorem pow_bd {h : Nat} (hh : h ≤ 8) : (1 : Int) ≤ 2 ^ h ∧ (2 : Int) ^ h ≤ 256 := by
  have : ∀ h, h < 9 → (1 : Int) ≤ 2 ^ h ∧ (2 : Int) ^ h ≤ 256 := by decide
  exact this h (by omega)
theorem wcs_bd {h w : Nat} (hh : S8 h) (hw : S8 w) : 0 ≤ (w : Int) * csumTo 0 h h (h + 1) ∧ (w : Int) * csumTo 0 h h (h + 1) ≤ 1000000 := by
  have := cs_bd h (by have := hh.2; omega)
  have w8 := hw.2
  refine ⟨Int.mul_nonneg (by omega) this.1, ?_⟩
  exact Int.le_trans (Int.mul_le_mul (show (w : Int) ≤ 8 by omega) this.2 this.1 (by decide)) (show (8 : Int) * 2048 ≤ 1000000 by decide)
theorem dMin1_2 (i j : Int) (S : Store) : dMin1 [.lst [.int i, .int j]] S = .ok (.int (mn i j)) S := by
  have m : minOk [.int i, .int j] = true := rfl
  have b : bestAt [.int i, .int j] = if j < i then 1 else 0 := by
    show (if PySem.W.dataLt (.int j) (.int i) = true then 1 else 0) = _
    simp only [PySem.W.dataLt_int, decide_eq_true_eq]
  simp only [dMin1, listOf, pdL, pd, m, if_true, b, mn]
  by_cases h : j < i <;> simp [h, opt]
/-! ### all lots -/
def lotsN : Nat → List (List Nat)
  | 0 => [[]]
  | n + 1 => lotsN n ++ (lotsN n).map (· ++ [n])
theorem lotsN_len : ∀ n, (lotsN n).length = 2 ^ n
  | 0 => rfl
  | n + 1 => by
    simp only [lotsN, List.length_append, List.length_map, lotsN_len n, Nat.pow_succ]
    omega
theorem lotsN_mem : ∀ {n : Nat} {l : List Nat}, l ∈ lotsN n → l.length ≤ n ∧ ∀ i, i ∈ l → i < n
  | 0, l, h => by
    simp only [lotsN, List.mem_singleton] at h
    subst h
    simp
  | n + 1, l, h => by
    simp only [lotsN, List.mem_append, List.mem_map] at h
    rcases h with h | ⟨m, h, rfl⟩
    · obtain ⟨a, b⟩ := lotsN_mem h
      exact ⟨by omega, fun i hi => by have := b i hi; omega⟩
    · obtain ⟨a, b⟩ := lotsN_mem h
      refine ⟨by simp; omega, fun i hi => ?_⟩
      rcases List.mem_append.mp hi with hi | hi
      · have := b i hi
        omega
      · rw [List.mem_singleton.mp hi]
        omega
def dT (l : List Nat) : D := .tup (l.map dN)
theorem pow256 {n : Nat} (h : n ≤ 8) : 2 ^ n ≤ 256 := Nat.le_trans (Nat.pow_le_pow_right (by decide) h) (by decide)
theorem dT_snoc (l : List Nat) (k : Nat) (S : Store) (hl : l.length ≤ 1000) : dAdd (dT l) (.tup [dN k]) S = .ok (dT (l ++ [k])) S := by
  unfold dT
  rw [addT S (by simp; omega), List.map_append]
  rfl
def lsum (h : Nat) : Int := ((lotsN h).map fun l => mn (l.length : Int) ((h : Int) - l.length)).sum
theorem lsum_cs : ∀ h : Nat, h < 9 → lsum h = csumTo 0 h h (h + 1) := by decide +kernel
theorem repr_pair {c d : Int} (hc : c.natAbs < 1000000000) (hd : d.natAbs < 1000000000) : ∃ t, (∀ S, dRepr [.tup [.int c, .int d]] S = .ok (.str t) S) ∧ ∀ S, dNe (.str t) (.str t) S = .ok (.bl false) S := by
  have h1 : Nat.blt c.natAbs (10 ^ 30) = true := by rw [Nat.blt_eq]; exact Nat.lt_trans hc (by decide)
  have h2 : Nat.blt d.natAbs (10 ^ 30) = true := by rw [Nat.blt_eq]; exact Nat.lt_trans hd (by decide)
  have w1 : ∀ i : Int, wt (.int i) ≤ 31 := fun i => by simp only [wt]; split <;> first | decide | (split <;> decide)
  obtain ⟨t, e1, e2, _⟩ := repr_ok (d := .tup [.int c, .int d]) (by simp only [shw, shwL, h1, h2, Bool.and_self]) (by
    have := w1 c
    have := w1 d
    simp only [wt, wtL] at *
    omega)
  exact ⟨t, e1, e2⟩
end Ls
namespace Ls
open PySem PySem.Spec PyProof.Rows L2
/-! ### texts of boards and switchings -/
def cS (b : Bool) : Nat := if b then 35 else 46
def sgT (b : Bool) : Str := ⟨#[cS b]⟩
theorem ix_sign (b : Bool) (S : Store) : dIx (.str ".#") (dB b) S = .ok (.str (sgT b)) S := by cases b <;> kernel_rfl
theorem ix_sign2 (b : Bool) (S : Store) : dIx (.lst [.str ".", .str "#"]) (dB b) S = .ok (.str (sgT b)) S := by cases b <;> kernel_rfl
theorem idx_sign (b : Bool) (S : Store) : dIndexS (.str ".#") [.str (sgT b)] S = .ok (dB b) S := by
  have e0 : Txt.index0 ".#" (sgT false) = some 0 := by decide +kernel
  have e1 : Txt.index0 ".#" (sgT true) = some 1 := by decide +kernel
  cases b
  · simp only [dIndexS, e0]; rfl
  · simp only [dIndexS, e1]; rfl
def dgT (i : Nat) : Str := ⟨#[48 + i]⟩
theorem dig10 : ∀ i : Nat, i < 10 → (toString (i : Int) : Str) = ⟨#[48 + i]⟩ := by decide +kernel
theorem int10 : ∀ i : Nat, i < 10 → PySem.intText? ⟨#[48 + i]⟩ = some (i : Int) := by decide +kernel
theorem in10 : ∀ i : Nat, i < 10 → (48 + i) ∈ ("0123456789" : Str).cps.toList := by decide +kernel
theorem add_signs (S : Store) : dAdd (.str "/") (.str ".#") S = .ok (.str "/.#") S := by kernel_rfl
theorem sg3 : ("/.#" : Str).cps.toList = [47, 46, 35] := by decide +kernel
theorem tl_sl : TL.tl ("/" : Str) = 47 :: [] := by decide +kernel
theorem tl_c : TL.tl ("c" : Str) = 99 :: [] := by decide +kernel
theorem tl_r : TL.tl ("r" : Str) = 114 :: [] := by decide +kernel
theorem tl_e : TL.tl ("" : Str) = [] := by decide +kernel
theorem sl_ok : (("/" : Str).cps.all fun x => decide (x < 256)) = true := by decide +kernel
theorem c_ok : (("c" : Str).cps.all fun x => decide (x < 256)) = true := by decide +kernel
theorem len_sl : ("/" : Str).length = 1 := by decide +kernel
theorem len_c : ("c" : Str).length = 1 := by decide +kernel
theorem len_r : ("r" : Str).length = 1 := by decide +kernel
theorem len_e : ("" : Str).length = 0 := by decide +kernel
/-- a text of these signs -/
def mkT (cs : List Nat) : Str := ⟨cs.toArray⟩
theorem tl_mk (cs : List Nat) : TL.tl (mkT cs) = cs := rfl
theorem len_mk (cs : List Nat) : (mkT cs).length = cs.length := by rw [TL.len_tl, tl_mk]
theorem strOk_tl {x : Str} (h : ∀ c, c ∈ TL.tl x → c < 256) : PyData.strOk x = true := by
  unfold PyData.strOk
  rw [Array.all_eq_true_iff_forall_mem]
  intro c hc
  have := h c (Array.mem_toList_iff.mpr hc)
  exact decide_eq_true (by omega)
theorem strsOf_map : ∀ ys : List Str, strsOf (ys.map D.str) = some ys
  | [] => rfl
  | y :: r => by
    show (strsOf (r.map D.str)).map (y :: ·) = _
    rw [strsOf_map r]
    rfl
theorem joinL_nil : ∀ ps : List (List Nat), TL.joinL [] ps = ps.flatten
  | [] => rfl
  | [p] => by simp [TL.joinL]
  | p :: q :: r => by
    show p ++ ([] ++ TL.joinL [] (q :: r)) = _
    rw [joinL_nil (q :: r)]
    simp
theorem joinL_mem {s : Nat} {c : Nat} : ∀ {ps : List (List Nat)}, c ∈ TL.joinL [s] ps → c = s ∨ ∃ p, p ∈ ps ∧ c ∈ p
  | [], h => by simp [TL.joinL] at h
  | [p], h => .inr ⟨p, by simp, h⟩
  | p :: q :: r, h => by
    replace h : c ∈ p ++ ([s] ++ TL.joinL [s] (q :: r)) := h
    rcases List.mem_append.mp h with h | h
    · exact .inr ⟨p, by simp, h⟩
    · rcases List.mem_append.mp h with h | h
      · exact .inl (by simpa using h)
      · rcases joinL_mem h with h | ⟨z, hz, hc⟩
        · exact .inl h
        · exact .inr ⟨z, List.mem_cons_of_mem _ hz, hc⟩
theorem joinL_len {s : Nat} : ∀ ps : List (List Nat), (TL.joinL [s] ps).length ≤ (ps.map List.length).sum + ps.length
  | [] => by simp [TL.joinL]
  | [p] => by simp [TL.joinL]
  | p :: q :: r => by
    have := joinL_len (s := s) (q :: r)
    show (p ++ ([s] ++ TL.joinL [s] (q :: r))).length ≤ _
    simp only [List.length_append, List.length_cons, List.length_nil, List.map_cons, List.sum_cons] at *
    omega
theorem sum_const {α : Type} (g : α → Nat) (c : Nat) : ∀ (xs : List α), (∀ x, x ∈ xs → g x ≤ c) → (xs.map g).sum ≤ xs.length * c
  | [], _ => by simp
  | x :: r, h => by
    have := sum_const g c r fun y hy => h y (List.mem_cons_of_mem _ hy)
    have := h x (by simp)
    simp only [List.map_cons, List.sum_cons, List.length_cons, Nat.succ_mul]
    omega
theorem join_ok {a : Str} {ys : List Str} {c : Nat} (S : Store) (ha : a.length ≤ 1) (hy : ∀ y, y ∈ ys → y.length ≤ c) (hl : ys.length ≤ 1000) (hc : c ≤ 100) : dJoin (.str a) [.lst (ys.map D.str)] S = .ok (.str (Txt.join a ys)) S := by
  have h1 := sum_const (·.length) c ys hy
  have h2 : ys.length * c ≤ 1000 * 100 := Nat.mul_le_mul hl hc
  have h3 : ys.length * a.length ≤ 1000 * 1 := Nat.mul_le_mul hl ha
  have : joinOk a ys = true := by
    unfold joinOk
    rw [Nat.ble_eq]
    omega
  simp only [dJoin, strsOf_map, this, if_true]
/-- a row -/
def rowT (w : Nat) (g : Nat → Bool) : Str := mkT ((List.range w).map fun j => cS (g j))
theorem flat_signs {α : Type} (xs : List α) (k : α → Nat) : (xs.map fun x => TL.tl (⟨#[k x]⟩ : Str)).flatten = xs.map k := by
  induction xs with
  | nil => rfl
  | cons x r ih =>
    rw [List.map_cons, List.flatten_cons, ih, List.map_cons]
    rfl
theorem join_signs {α : Type} (xs : List α) (k : α → Nat) : Txt.join "" (xs.map fun x => (⟨#[k x]⟩ : Str)) = mkT (xs.map k) := by
  apply TL.ext_tl
  rw [TL.join_eq, TL.tl_join, tl_e, joinL_nil, List.map_map, tl_mk, ← flat_signs xs k]
  rfl
theorem rowT_len (w : Nat) (g : Nat → Bool) : (rowT w g).length = w := by simp [rowT, len_mk]
theorem rowT_succ (w : Nat) (g : Nat → Bool) : rowT w g ++ sgT (g w) = rowT (w + 1) g := by
  apply TL.ext_tl
  rw [TL.tl_append]
  simp only [rowT, tl_mk, List.range_succ, List.map_append]
  rfl
theorem cS_mem {c : Nat} {w : Nat} {g : Nat → Bool} (h : c ∈ TL.tl (rowT w g)) : c = 35 ∨ c = 46 := by
  rw [rowT, tl_mk] at h
  obtain ⟨j, _, rfl⟩ := List.mem_map.mp h
  unfold cS
  cases g j <;> simp
def boardT (h w : Nat) (f : Nat → Nat → Bool) : Str := Txt.join "/" ((List.range h).map fun i => rowT w (f i))
theorem tl_boardT (h w : Nat) (f : Nat → Nat → Bool) : TL.tl (boardT h w f) = TL.joinL [47] ((List.range h).map fun i => TL.tl (rowT w (f i))) := by
  rw [boardT, TL.join_eq, TL.tl_join, tl_sl, List.map_map]
  rfl
theorem boardT_mem {h w : Nat} {f : Nat → Nat → Bool} {c : Nat} (hc : c ∈ TL.tl (boardT h w f)) : c = 47 ∨ c = 46 ∨ c = 35 := by
  rw [tl_boardT] at hc
  rcases joinL_mem hc with rfl | ⟨p, hp, hc⟩
  · exact .inl rfl
  · obtain ⟨i, _, rfl⟩ := List.mem_map.mp hp
    rcases cS_mem hc with h | h
    · exact .inr (.inr h)
    · exact .inr (.inl h)
theorem boardT_len {h w : Nat} (f : Nat → Nat → Bool) (hh : h ≤ 8) (hw : w ≤ 8) : (boardT h w f).length ≤ 72 := by
  rw [TL.len_tl, tl_boardT]
  have h1 := joinL_len (s := 47) ((List.range h).map fun i => TL.tl (rowT w (f i)))
  have h2 := sum_const (fun i => (TL.tl (rowT w (f i))).length) 8 (List.range h) fun i _ => by
    rw [← TL.len_tl, rowT_len]
    exact hw
  rw [List.map_map] at h1
  simp only [List.length_map, List.length_range] at h1 h2
  have : ((List.range h).map (List.length ∘ fun i => TL.tl (rowT w (f i)))).sum = ((List.range h).map fun i => (TL.tl (rowT w (f i))).length).sum := rfl
  omega
theorem addS {x y : Str} (S : Store) (h : x.length + y.length ≤ 1000000) : dAdd (.str x) (.str y) S = .ok (.str (x ++ y)) S := by
  simp only [dAdd]
  rw [if_pos (small_of h)]
theorem signs_row (w : Nat) (g : Nat → Bool) : signs (rowT w g) = (List.range w).map fun j => .str (sgT (g j)) := by
  show (TL.tl (rowT w g)).map (fun c => D.str ⟨#[c]⟩) = _
  rw [rowT, tl_mk, List.map_map]
  rfl
/-! ### lots -/
def lotT (m : Nat) (p : Nat → Bool) : Str := mkT (((List.range m).filter p).map (48 + ·))
theorem filt_len (m : Nat) (p : Nat → Bool) : ((List.range m).filter p).length ≤ m := by
  have := List.length_filter_le p (List.range m)
  rwa [List.length_range] at this
theorem lotT_len (m : Nat) (p : Nat → Bool) : (lotT m p).length ≤ m := by
  rw [lotT, len_mk, List.length_map]
  exact filt_len m p
theorem lotT_mem {m c : Nat} {p : Nat → Bool} (hm : m ≤ 8) (h : c ∈ TL.tl (lotT m p)) : 48 ≤ c ∧ c < 57 := by
  rw [lotT, tl_mk] at h
  obtain ⟨i, hi, rfl⟩ := List.mem_map.mp h
  have := List.mem_range.mp (List.mem_filter.mp hi).1
  omega
theorem filt_lt {m i : Nat} {p : Nat → Bool} (hm : m ≤ 8) (h : i ∈ (List.range m).filter p) : i < 10 := by
  have := List.mem_range.mp (List.mem_filter.mp h).1
  omega
theorem dStr_dig {i : Nat} (S : Store) (h : i < 10) : dStr [dN i] S = .ok (.str (dgT i)) S := by
  simp only [dStr, dN, Int.natAbs_natCast]
  rw [if_pos (by rw [Nat.ble_eq]; omega), dig10 i h]
  rfl
theorem join_lot {m : Nat} (p : Nat → Bool) (S : Store) (hm : m ≤ 8) : dJoin (.str "") [.lst (((List.range m).filter p).map fun i => .str (dgT i))] S = .ok (.str (lotT m p)) S := by
  have fl := filt_len m p
  have := join_ok (a := "") (ys := ((List.range m).filter p).map dgT) (c := 1) S (by rw [len_e]; omega) (fun y hy => by
    obtain ⟨j, _, rfl⟩ := List.mem_map.mp hy
    exact Nat.le_of_eq rfl) (by simp; omega) (by omega)
  rw [List.map_map, show Txt.join "" (((List.range m).filter p).map dgT) = lotT m p from join_signs _ _] at this
  exact this
theorem srcOf_L (m : Nat) (p : Nat → Bool) (S : Store) : srcOf S (dL m p) = some (((List.range m).filter p).map dN, []) := rfl
def swT2 (h w : Nat) (p q : Nat → Bool) : Str := (("r" ++ lotT h p) ++ "c") ++ lotT w q
theorem add_sw {h w : Nat} (p q : Nat → Bool) (S : Store) (hh : h ≤ 8) (hw : w ≤ 8) : dAdd (.str "r") (.str (lotT h p)) S = .ok (.str ("r" ++ lotT h p)) S ∧ dAdd (.str ("r" ++ lotT h p)) (.str "c") S = .ok (.str (("r" ++ lotT h p) ++ "c")) S ∧ dAdd (.str (("r" ++ lotT h p) ++ "c")) (.str (lotT w q)) S = .ok (.str (swT2 h w p q)) S := by
  have a := lotT_len h p
  have b := lotT_len w q
  refine ⟨addS S (by rw [len_r]; omega), addS S (by rw [PySem.Str.length_append, len_r, len_c]; omega), ?_⟩
  rw [addS S (by rw [PySem.Str.length_append, PySem.Str.length_append, len_r, len_c]; omega)]
  rfl
theorem dL_8 {m : Nat} (p : Nat → Bool) (hm : m ≤ 8) : dL m p = dL 8 fun i => p i && decide (i < m) := by
  unfold dL
  congr 2
  have e : List.range 8 = List.range m ++ List.range' m (8 - m) := by
    rw [List.range_eq_range', List.range_eq_range']
    have := List.range'_append (s := 0) (m := m) (n := 8 - m) (step := 1)
    simp only [Nat.one_mul, Nat.zero_add] at this
    rw [this]
    congr 1
    omega
  rw [e, List.filter_append]
  have e2 : (List.range' m (8 - m)).filter (fun i => p i && decide (i < m)) = [] := List.filter_eq_nil_iff.mpr fun i hi => by
    have := (List.mem_range'_1.mp hi).1
    simp
    omega
  rw [e2, List.append_nil]
  exact List.filter_congr fun i hi => by
    have := List.mem_range.mp hi
    simp [this]
theorem pd_L (m : Nat) (p : Nat → Bool) : ∃ us, pd (dL m p) = some (.tuple us) := by
  have := tidy_pd (k := 60) (d := dL m p) (by
    simp only [dL, tidy]
    exact tidyL_iff.mpr fun d hd => by
      obtain ⟨i, _, rfl⟩ := List.mem_map.mp hd
      simp [tidy, dN])
  obtain ⟨x, e, _⟩ := this
  have e' := e
  simp only [dL, pd, Option.map_eq_some_iff] at e'
  obtain ⟨us, _, rfl⟩ := e'
  exact ⟨us, e⟩
theorem none_in {h w : Nat} (p q : Nat → Bool) (S : Store) : dInX .non (dSw h w p q) S = .ok (.bl false) S := by
  have t : tidy 60 (dSw h w p q) = true := by
    have tl : ∀ m p, tidy 59 (dL m p) = true := fun m p => by
      simp only [dL, tidy]
      exact tidyL_iff.mpr fun d hd => by
        obtain ⟨i, _, rfl⟩ := List.mem_map.mp hd
        simp [tidy, dN]
    simp [dSw, tidy, tidyL, tl]
  obtain ⟨x, ex, cx, dx⟩ := tidy_pd t
  obtain ⟨us, eu⟩ := pd_L h p
  obtain ⟨vs, ev⟩ := pd_L w q
  have e2 : pd (dSw h w p q) = some (.tuple [.tuple us, .tuple vs]) := by simp [dSw, pd, pdL, eu, ev]
  rw [e2] at ex
  cases ex
  have sx : SeqAt.shaped (.tuple [.tuple us, .tuple vs]) = true := by simp [SeqAt.shaped, cx]; omega
  have e3 : pdS S (dSw h w p q) = some (.tuple [.tuple us, .tuple vs]) := by rw [pdS_tidy S t, e2]
  show (match pdS S (dSw h w p q) with
    | some (.tuple ds) => if SeqAt.shaped (.tuple ds) = true then .ok (.bl (ds.any fun z => PyData.eqv z .none)) S else .no
    | _ => .no : Res D) = _
  simp only [e3, sx, if_true]
  rfl
theorem cutS_1 (z : Str) : cutS z none (some 1) = mkT ((TL.tl z).take 1) := by
  unfold cutS mkT
  congr 2
  simp only [HT.sIx, Nat.sub_zero, List.drop_zero]
  rw [if_neg (by decide)]
  apply List.take_eq_take_iff.mpr
  rw [TL.len_tl]
  simp
theorem cut1 (l : List Nat) : (l.drop (min (Int.toNat 1) l.length)).take (l.length - min (Int.toNat 1) l.length) = l.drop 1 := by
  cases l with
  | nil => rfl
  | cons a r => simp
theorem cutS_r (z : Str) : cutS z (some 1) none = mkT ((TL.tl z).drop 1) := by
  unfold cutS mkT
  congr 2
  simp only [HT.sIx]
  rw [if_neg (by decide), TL.len_tl]
  exact cut1 (TL.tl z)
theorem ne_boardT (h w : Nat) (f : Nat → Nat → Bool) (S : Store) : dNe (.str (boardT h w f)) (.str (boardT h w f)) S = .ok (.bl false) S := dNe_same S (by
  simp only [tidy]
  exact strOk_tl fun c hc => by rcases boardT_mem hc with rfl | rfl | rfl <;> decide)
theorem ne_swT {h w : Nat} (p q : Nat → Bool) (S : Store) (hh : h ≤ 8) (hw : w ≤ 8) : dNe (.str (swT2 h w p q)) (.str (swT2 h w p q)) S = .ok (.bl false) S := dNe_same S (by
  simp only [tidy]
  refine strOk_tl fun c hc => ?_
  unfold swT2 at hc
  simp only [TL.tl_append, tl_r, tl_c, List.mem_append, List.mem_singleton] at hc
  rcases hc with ((h1 | h1) | h1) | h1
  · omega
  · have := lotT_mem hh h1; omega
  · omega
  · have := lotT_mem hw h1; omega)
end Ls
namespace Ls
open PySem PySem.Spec PyProof.Rows L2
theorem box2 (x : Int) : ∃ x' y, F__law_wide_box [.ref 0] [.lst [.int x]] = .ok (.ref 1) [.lst [.int x'], .lst [.int y]] := F_law_wide_box_ok (n := 0) (x := x) (S := [.lst [.int x]]) rfl
theorem take2 {x m : Int} (o : Ob) (h0 : 0 < m) (h1 : m ≤ 1000000000000) : F__law_take [.ref 1, .int m] [o, .lst [.int x]] = .ok (.int (x % m)) [o, .lst [.int (x / m)]] := F_law_take_ok (n := 1) (S := [o, .lst [.int x]]) rfl h0 h1
def sg96 : Str := (" !\"#$&'()*+,-./0123456789:;<=>?@ABCDEFGHIJKLMNOPQRSTUVWXYZ[\\]^_`" : Str) ++ ("abcdefghijklmnopqrstuvwxyz{|}~\n\t" : Str)
theorem add_sg96 (S : Store) : dAdd (.str " !\"#$&'()*+,-./0123456789:;<=>?@ABCDEFGHIJKLMNOPQRSTUVWXYZ[\\]^_`") (.str "abcdefghijklmnopqrstuvwxyz{|}~\n\t") S = .ok (.str sg96) S := by
  have h : small ((" !\"#$&'()*+,-./0123456789:;<=>?@ABCDEFGHIJKLMNOPQRSTUVWXYZ[\\]^_`" : Str).length + ("abcdefghijklmnopqrstuvwxyz{|}~\n\t" : Str).length) = true := by decide +kernel
  simp only [dAdd]
  rw [if_pos h]
  rfl
theorem ix_sg96 {k : Nat} (hk : k < 96) : ∃ t : Str, t.length = 1 ∧ ∀ S, dIx (.str sg96) (.int (k : Int)) S = .ok (.str t) S := by
  have hs : small sg96.length = true := by decide +kernel
  have hl : sg96.cps.toList.length = 96 := by decide +kernel
  have ha : atI sg96.cps.toList (k : Int) = some (sg96.cps.toList[k]'(by rw [hl]; exact hk)) := atI_nat (List.getElem?_eq_getElem (by rw [hl]; exact hk))
  refine ⟨⟨#[sg96.cps.toList[k]'(by rw [hl]; exact hk)]⟩, rfl, fun S => ?_⟩
  simp only [dIx, hs, if_true, ha]
theorem text_ok (a0 a2 : Option D) (o : Ob) (y : Int) : ∃ (t : Str) (y' : Int), eBM isSt dJoin (eC (.str "")) (aCons (eComp [11] (iCall rng1 (aCons (eCB F__law_take (aCons (eVar 3) (aCons (eC (.int 11)) aNil))) aNil)) (.one 11) bYes (eOp dIx (eVar 1) (eCB F__law_take (aCons (eVar 3) (aCons (eC (.int 96)) aNil)))) finL) aNil)
    [a0, some (.str sg96), a2, some (.ref 1), none, none, none, none, none, none, none, none, none] [o, .lst [.int y]] = .ok (.str t) [o, .lst [.int y']] := by
  have r0 := Int.emod_nonneg y (show (11 : Int) ≠ 0 by decide)
  have r1 := Int.emod_lt_of_pos y (show (0 : Int) < 11 by decide)
  obtain ⟨n, hn⟩ : ∃ n : Nat, y % 11 = (n : Int) := ⟨(y % 11).toNat, by omega⟩
  obtain ⟨zs, S2, e, ts, y', e1, e2, e3, e4⟩ := comp_inv (vs := [11]) (fi := iCall rng1 (aCons (eCB F__law_take (aCons (eVar 3) (aCons (eC (.int 11)) aNil))) aNil)) (t := .one 11) (ft := bYes) (fe := eOp dIx (eVar 1) (eCB F__law_take (aCons (eVar 3) (aCons (eC (.int 96)) aNil))))
    (its := ((List.range n).map dN, [])) (enc := dN) (ρ := [a0, some (.str sg96), a2, some (.ref 1), none, none, none, none, none, none, none, none, none]) (S := [o, .lst [.int y]]) (S' := [o, .lst [.int (y / 11)]]) n
    (fun k acc S' => ∃ (ts : List Str) (y' : Int), acc = ts.map D.str ∧ ts.length = k ∧ (∀ t, t ∈ ts → t.length = 1) ∧ S' = [o, .lst [.int y']]) (by simp only [sSeq, sIf, sRet, sAsg, sPar, sDrop, sNext, sPre, sWipe, Fl.wipe, wipeD, Tgt.asg, setAll, bOr, bAnd, bNot, tOfE, asB, asI, eIf, eAnd, eOr, eNot, eNeg, eVar, eC, eOp, eCB, eChain, eRev, aCons, aNil, eTup, eLst, mkTup, mkLst, eSl, oSome, oNone, iSeq, iCall, walked, srcOf_tup, srcOf_lst, opt_some, opt_none, dAdd_ii, dInt0_ii, dLt_ii, dInt1_bl, dEq_int, dNe_int, dEq_bl, dNe_bl, bind_ok, bind_no, bind_exc, fnD, startD, endOf_rt, endOf_nx, endOf_exc, List.map_cons, List.map_nil, List.length_cons, List.length_nil, List.cons_append, List.nil_append, List.getElem?_cons_zero, List.getElem?_cons_succ, List.set_cons_zero, List.set_cons_succ, List.replicate, if_true, if_false, Bool.false_eq_true, Bool.true_eq_false, Nat.reduceAdd, Nat.reduceSub, Nat.reduceEqDiff, reduceIte, ite_self, take2 o (show (0 : Int) < 11 by decide) (show (11 : Int) ≤ 1000000000000 by decide), hn]; exact rng1_nat _ (by omega)) rfl ⟨[], _, rfl, rfl, (fun _ h => nomatch h), rfl⟩
    (fun k acc S' hI => ⟨okNil _ _, by obtain ⟨ts, y', rfl, h, _, _⟩ := hI; simp; omega⟩) (by omega) (fun k hk acc S' hI => by
      obtain ⟨ts, y', rfl, hl, h1, rfl⟩ := hI
      have q0 := Int.emod_nonneg y' (show (96 : Int) ≠ 0 by decide)
      have q1 := Int.emod_lt_of_pos y' (show (0 : Int) < 96 by decide)
      obtain ⟨j, hj⟩ : ∃ j : Nat, y' % 96 = (j : Int) := ⟨(y' % 96).toNat, by omega⟩
      obtain ⟨t, ht, hx⟩ := ix_sg96 (k := j) (by omega)
      refine ⟨_, rfl, true, _, rfl, .inl ⟨rfl, .str t, [o, .lst [.int (y' / 96)]], ?_, ts ++ [t], _, ?_, ?_, ?_, rfl⟩⟩
      · simp only [sSeq, sIf, sRet, sAsg, sPar, sDrop, sNext, sPre, sWipe, Fl.wipe, wipeD, Tgt.asg, setAll, bOr, bAnd, bNot, tOfE, asB, asI, eIf, eAnd, eOr, eNot, eNeg, eVar, eC, eOp, eCB, eChain, eRev, aCons, aNil, eTup, eLst, mkTup, mkLst, eSl, oSome, oNone, iSeq, iCall, walked, srcOf_tup, srcOf_lst, opt_some, opt_none, dAdd_ii, dInt0_ii, dLt_ii, dInt1_bl, dEq_int, dNe_int, dEq_bl, dNe_bl, bind_ok, bind_no, bind_exc, fnD, startD, endOf_rt, endOf_nx, endOf_exc, List.map_cons, List.map_nil, List.length_cons, List.length_nil, List.cons_append, List.nil_append, List.getElem?_cons_zero, List.getElem?_cons_succ, List.set_cons_zero, List.set_cons_succ, List.replicate, if_true, if_false, Bool.false_eq_true, Bool.true_eq_false, Nat.reduceAdd, Nat.reduceSub, Nat.reduceEqDiff, reduceIte, ite_self, take2 o (show (0 : Int) < 96 by decide) (show (96 : Int) ≤ 1000000000000 by decide), hj, hx]
      · simp
      · simp [hl]
      · intro u hu
        rcases List.mem_append.mp hu with z | z
        · exact h1 u z
        · simp at z
          rw [z]
          exact ht)
  refine ⟨Txt.join "" ts, y', ?_⟩
  simp only [sSeq, sIf, sRet, sAsg, sPar, sDrop, sNext, sPre, sWipe, Fl.wipe, wipeD, Tgt.asg, setAll, bOr, bAnd, bNot, tOfE, asB, asI, eIf, eAnd, eOr, eNot, eNeg, eVar, eC, eOp, eCB, eChain, eRev, aCons, aNil, eTup, eLst, mkTup, mkLst, eSl, oSome, oNone, iSeq, iCall, walked, srcOf_tup, srcOf_lst, opt_some, opt_none, dAdd_ii, dInt0_ii, dLt_ii, dInt1_bl, dEq_int, dNe_int, dEq_bl, dNe_bl, bind_ok, bind_no, bind_exc, fnD, startD, endOf_rt, endOf_nx, endOf_exc, List.map_cons, List.map_nil, List.length_cons, List.length_nil, List.cons_append, List.nil_append, List.getElem?_cons_zero, List.getElem?_cons_succ, List.set_cons_zero, List.set_cons_succ, List.replicate, if_true, if_false, Bool.false_eq_true, Bool.true_eq_false, Nat.reduceAdd, Nat.reduceSub, Nat.reduceEqDiff, reduceIte, ite_self, eBM, isSt, e, e1, e4]
  rw [join_ok _ (show (("" : Str).length ≤ 1) by decide) (c := 1) (fun u hu => Nat.le_of_eq (e3 u hu)) (by omega) (by decide)]
/-! ### the classes -/
def kE (a b : Int) : List Opq := [.exo "NoBoard", .exo "NoLine", .exo "NoSwitching", .exo "NoNumber", .exo "Unlike", .exo "NoNet", .exo "NoPlace", .exo "NoText", .exo "NoRow", .exm "TooMany" a b]
theorem isV_gl {k : Opq} {x y : Str} (S : Store) (e : excName k = some x) (hx : x ∈ errN1) (hy : y ∈ errN1) : dIsV [.opq k, .gl y] S = .ok (.bl (isSub x y)) S := by
  show (match excName k with
    | some x => if x ∈ errN1 ∧ y ∈ errN1 then Res.ok (D.bl (isSub x y)) S else .no
    | none => .no) = _
  rw [e]
  exact if_pos ⟨hx, hy⟩
theorem isV_ve {k : Opq} {x : Str} (S : Store) (e : excName k = some x) (hx : x ∈ errN1) : dIsV [.opq k, .ty "ValueError"] S = .ok (.bl true) S := by
  show (match excName k with
    | some x => if x ∈ errN1 ∧ ("ValueError" : String) = "ValueError" then Res.ok (D.bl true) S else .no
    | none => .no) = _
  rw [e]
  exact if_pos ⟨hx, rfl⟩
theorem memE : ∀ y, y ∈ errNames → y ∈ errN1 := fun y h => List.mem_cons_of_mem _ h
theorem F_law_classes_ok {k : Opq} {x : Str} (S : Store) (e : excName k = some x) (hx : x ∈ errN1) : F__law_classes [.opq k] S = .ok (.lst ((errNames.map (isSub x)).map D.bl)) S := by
  have g : ∀ y, y ∈ errNames → ∀ S, dIsV [.opq k, .gl y] S = .ok (.bl (isSub x y)) S := fun y hy S => isV_gl S e hx (memE y hy)
  have s4 : ∀ a b c d : D, mkLst [a, b, c, d] S = .ok (.lst [a, b, c, d]) S := fun _ _ _ _ => rfl
  have s2 : ∀ a b : D, mkLst [a, b] S = .ok (.lst [a, b]) S := fun _ _ => rfl
  have a1 : ∀ a b c d a' b' c' d' : D, dAdd (.lst [a, b, c, d]) (.lst [a', b', c', d']) S = .ok (.lst [a, b, c, d, a', b', c', d']) S := fun _ _ _ _ _ _ _ _ => rfl
  have a2 : ∀ a b c d a' b' c' d' u v : D, dAdd (.lst [a, b, c, d, a', b', c', d']) (.lst [u, v]) S = .ok (.lst [a, b, c, d, a', b', c', d', u, v]) S := fun _ _ _ _ _ _ _ _ _ _ => rfl
  have sm4 := small_of (show 4 ≤ 1000000 by decide)
  have sm2 := small_of (show 2 ≤ 1000000 by decide)
  simp only [F__law_classes, sSeq, sIf, sRet, sAsg, sPar, sDrop, sNext, sPre, sWipe, Fl.wipe, wipeD, Tgt.asg, setAll, bOr, bAnd, bNot, tOfE, asB, asI, eIf, eAnd, eOr, eNot, eNeg, eVar, eC, eOp, eCB, eChain, eRev, aCons, aNil, eTup, eLst, mkTup, mkLst, eSl, oSome, oNone, iSeq, iCall, walked, srcOf_tup, srcOf_lst, opt_some, opt_none, dAdd_ii, dInt0_ii, dLt_ii, dInt1_bl, dEq_int, dNe_int, dEq_bl, dNe_bl, bind_ok, bind_no, bind_exc, fnD, startD, endOf_rt, endOf_nx, endOf_exc, List.map_cons, List.map_nil, List.length_cons, List.length_nil, List.cons_append, List.nil_append, List.getElem?_cons_zero, List.getElem?_cons_succ, List.set_cons_zero, List.set_cons_succ, List.replicate, if_true, if_false, Bool.false_eq_true, Bool.true_eq_false, Nat.reduceAdd, Nat.reduceSub, Nat.reduceEqDiff, reduceIte, ite_self, g "NoBoard" (by decide +kernel), g "NoLine" (by decide +kernel), g "NoSwitching" (by decide +kernel), g "NoNumber" (by decide +kernel), g "Unlike" (by decide +kernel), g "NoNet" (by decide +kernel), g "NoPlace" (by decide +kernel), g "NoText" (by decide +kernel), g "NoRow" (by decide +kernel), g "TooMany" (by decide +kernel), sm4, sm2, a1, a2, leave_same]
  rfl
theorem cls_at : ∀ i : Nat, i < 10 → errNames.map (isSub (errNames.getD i "")) = (List.range 10).map fun p => decide (p = i) := by decide +kernel
theorem cls_S : errNames.map (isSub "SwitchError") = List.replicate 10 false := by decide +kernel
theorem sub_S (x : Str) : isSub x "SwitchError" = true := by
  unfold isSub
  rw [decide_eq_true (rfl : ("SwitchError" : Str) = "SwitchError"), Bool.or_true]
theorem kE_name (a b : Int) : ∀ i : Nat, i < 10 → excName ((kE a b).getD i (.exo "")) = some (errNames.getD i "") := by
  intro i hi
  match i, hi with
  | 0, _ => rfl
  | 1, _ => rfl
  | 2, _ => rfl
  | 3, _ => rfl
  | 4, _ => rfl
  | 5, _ => rfl
  | 6, _ => rfl
  | 7, _ => rfl
  | 8, _ => rfl
  | 9, _ => rfl
theorem name_mem : ∀ i : Nat, i < 10 → errNames.getD i "" ∈ errN1 := by decide +kernel
theorem pdL_bls : ∀ l : List Bool, pdL (l.map D.bl) = some (l.map PyData.bool)
  | [] => rfl
  | a :: l => by
    have e : pd (D.bl a) = some (PyData.bool a) := rfl
    simp only [List.map_cons, pdL, e, pdL_bls l]
theorem lay_bls : ∀ l : List Bool, PyData.canLayAll0 (l.map PyData.bool) = true ∧ PyData.depthAll (l.map PyData.bool) = 0 ∧ PyData.eqvAll (l.map PyData.bool) (l.map PyData.bool) = true
  | [] => ⟨rfl, rfl, rfl⟩
  | a :: l => by
    obtain ⟨h1, h2, h3⟩ := lay_bls l
    exact ⟨by simp only [List.map_cons, PyData.canLayAll0, PyData.canLay0, h1, Bool.and_self], by simp only [List.map_cons, PyData.depthAll, PyData.depth, h2, Nat.max_self], by simp only [List.map_cons, PyData.eqvAll, PyData.eqv, h3, Bool.and_true, beq_self_eq_true]⟩
theorem dNe_bls (l : List Bool) (S : Store) : dNe (.lst (l.map D.bl)) (.lst (l.map D.bl)) S = .ok (.bl false) S := by
  obtain ⟨h1, h2, h3⟩ := lay_bls l
  have e : pdS S (.lst (l.map D.bl)) = some (.list (l.map PyData.bool)) := by
    show pd (.lst _) = _
    simp only [pd, pdL_bls, Option.map_some]
  have hs : SeqAt.shaped (.list (l.map PyData.bool)) = true := by simp [SeqAt.shaped, PyData.canLay0, PyData.depth, h1, h2]
  show eqD true _ _ S = _
  unfold eqD
  simp only [e, hs, Bool.and_self, if_true, PyData.eqv, h3, Bool.not_true]
theorem repr_two {c d : Int} (hc : c.natAbs < 1000000000) (hd : d.natAbs < 1000000000) : ∃ t, (∀ S, dRepr [.lst [.int c, .int d]] S = .ok (.str t) S) ∧ ∀ S, dNe (.str t) (.str t) S = .ok (.bl false) S := by
  have p : (1000000000 : Nat) ≤ 10 ^ 30 := by decide
  have h1 : Nat.blt c.natAbs (10 ^ 30) = true := by rw [Nat.blt_eq]; exact Nat.lt_of_lt_of_le hc p
  have h2 : Nat.blt d.natAbs (10 ^ 30) = true := by rw [Nat.blt_eq]; exact Nat.lt_of_lt_of_le hd p
  have w1 : ∀ i : Int, wt (.int i) ≤ 31 := fun i => by simp only [wt]; split <;> first | decide | (split <;> decide)
  obtain ⟨t, e1, e2, _⟩ := repr_ok (d := .lst [.int c, .int d]) (by simp only [shw, shwL, h1, h2, Bool.and_self]) (by
    have := w1 c
    have := w1 d
    simp only [wt, wtL] at *
    omega)
  exact ⟨t, e1, e2⟩
theorem law_true (ns : List Int) (hl : ns.length ≤ 63) (hb : ∀ z, z ∈ ns → Builtin.Int.intBits z ≤ 1048576) : ∃ S, F_law [.scr ns] [] = .ok (.bl true) S := by
  have el : dLen [.scr ns] [] = .ok (.int ns.length) [] := by simp [dLen, items]
  obtain ⟨m, em, hm⟩ := turns ns.length 4 (by decide) (by decide) []
  simp only [sSeq, sIf, sRet, sAsg, sPar, sDrop, sNext, sPre, sWipe, Fl.wipe, wipeD, Tgt.asg, setAll, bOr, bAnd, bNot, tOfE, asB, asI, eIf, eAnd, eOr, eNot, eNeg, eVar, eC, eOp, eCB, eChain, eRev, aCons, aNil, eTup, eLst, mkTup, mkLst, eSl, oSome, oNone, iSeq, iCall, walked, srcOf_tup, srcOf_lst, opt_some, opt_none, dAdd_ii, dInt0_ii, dLt_ii, dInt1_bl, dEq_int, dNe_int, dEq_bl, dNe_bl, bind_ok, bind_no, bind_exc, fnD, startD, endOf_rt, endOf_nx, endOf_exc, List.map_cons, List.map_nil, List.length_cons, List.length_nil, List.cons_append, List.nil_append, List.getElem?_cons_zero, List.getElem?_cons_succ, List.set_cons_zero, List.set_cons_succ, List.replicate, if_true, if_false, Bool.false_eq_true, Bool.true_eq_false, Nat.reduceAdd, Nat.reduceSub, Nat.reduceEqDiff, reduceIte, ite_self] at em
  have s2 := small_of (show 2 ≤ 1000000 by decide)
  have s4 := small_of (show 4 ≤ 1000000 by decide)
  have s6 := small_of (show 6 ≤ 1000000 by decide)
  simp only [F_law, sSeq, sIf, sRet, sAsg, sPar, sDrop, sNext, sPre, sWipe, Fl.wipe, wipeD, Tgt.asg, setAll, bOr, bAnd, bNot, tOfE, asB, asI, eIf, eAnd, eOr, eNot, eNeg, eVar, eC, eOp, eCB, eChain, eRev, aCons, aNil, eTup, eLst, mkTup, mkLst, eSl, oSome, oNone, iSeq, iCall, walked, srcOf_tup, srcOf_lst, opt_some, opt_none, dAdd_ii, dInt0_ii, dLt_ii, dInt1_bl, dEq_int, dNe_int, dEq_bl, dNe_bl, bind_ok, bind_no, bind_exc, fnD, startD, endOf_rt, endOf_nx, endOf_exc, List.map_cons, List.map_nil, List.length_cons, List.length_nil, List.cons_append, List.nil_append, List.getElem?_cons_zero, List.getElem?_cons_succ, List.set_cons_zero, List.set_cons_succ, List.replicate, if_true, if_false, Bool.false_eq_true, Bool.true_eq_false, Nat.reduceAdd, Nat.reduceSub, Nat.reduceEqDiff, reduceIte, ite_self, el, add_sg96]
  generalize hF : sFor _ _ _ _ _ = r
  have key : ∃ ρ2 S2, r = .ok (.nx ρ2) S2 ∧ (ρ2 = some (.scr ns) :: some (.str sg96) :: List.replicate 11 none ∧ S2 = []) := by
    rw [← hF]
    clear hF
    refine for_inv (its := ((List.range m).map dN, [])) (enc := dN) (S' := []) m (fun _ ρ S => ρ = some (.scr ns) :: some (.str sg96) :: List.replicate 11 none ∧ S = []) ?_ rfl ⟨rfl, rfl⟩ (fun _ _ _ _ => okNil _ _) ?_
    · simp only [sSeq, sIf, sRet, sAsg, sPar, sDrop, sNext, sPre, sWipe, Fl.wipe, wipeD, Tgt.asg, setAll, bOr, bAnd, bNot, tOfE, asB, asI, eIf, eAnd, eOr, eNot, eNeg, eVar, eC, eOp, eCB, eChain, eRev, aCons, aNil, eTup, eLst, mkTup, mkLst, eSl, oSome, oNone, iSeq, iCall, walked, srcOf_tup, srcOf_lst, opt_some, opt_none, dAdd_ii, dInt0_ii, dLt_ii, dInt1_bl, dEq_int, dNe_int, dEq_bl, dNe_bl, bind_ok, bind_no, bind_exc, fnD, startD, endOf_rt, endOf_nx, endOf_exc, List.map_cons, List.map_nil, List.length_cons, List.length_nil, List.cons_append, List.nil_append, List.getElem?_cons_zero, List.getElem?_cons_succ, List.set_cons_zero, List.set_cons_succ, List.replicate, if_true, if_false, Bool.false_eq_true, Bool.true_eq_false, Nat.reduceAdd, Nat.reduceSub, Nat.reduceEqDiff, reduceIte, ite_self, el, em]
      exact rng1_nat _ (by omega)
    · rintro k hk ρ S ⟨rfl, rfl⟩
      refine ⟨_, rfl, some (.scr ns) :: some (.str sg96) :: List.replicate 11 none, [], ?_, rfl, rfl⟩
      obtain ⟨x, e0⟩ := F_law_box_ok (ns := ns) (k := k) [] hb (by omega)
      simp only [List.length_nil, List.nil_append] at e0
      obtain ⟨x1, y, e1⟩ := box2 x
      obtain ⟨t, y1, e2⟩ := text_ok (some (.scr ns)) (some (dN k)) (.lst [.int x1]) y
      have p6 : ∀ T, dPow (.int 10) (.int 6) T = .ok (.int 1000000) T := fun _ => rfl
      have r0 := Int.emod_nonneg y1 (show (1000000 : Int) ≠ 0 by decide)
      have r1 := Int.emod_lt_of_pos y1 (show (0 : Int) < 1000000 by decide)
      have q0 := Int.emod_nonneg (y1 / 1000000) (show (1000000 : Int) ≠ 0 by decide)
      have q1 := Int.emod_lt_of_pos (y1 / 1000000) (show (0 : Int) < 1000000 by decide)
      have t1 := take2 (x := y1) (m := 1000000) (.lst [.int x1]) (by decide) (by decide)
      have t2 := take2 (x := y1 / 1000000) (m := 1000000) (.lst [.int x1]) (by decide) (by decide)
      generalize y1 % 1000000 = a at r0 r1 t1
      generalize (y1 / 1000000) % 1000000 = b at q0 q1 t2
      generalize hT : ([.lst [.int x1], .lst [.int (y1 / 1000000 / 1000000)]] : Store) = T at t2
      obtain ⟨u, ru, nu⟩ := repr_two (c := a) (d := b) (by omega) (by omega)
      have ea : dAdd (.lst [.opq (.exo "NoBoard"), .opq (.exo "NoLine"), .opq (.exo "NoSwitching"), .opq (.exo "NoNumber"), .opq (.exo "Unlike"), .opq (.exo "NoNet")]) (.lst [.opq (.exo "NoPlace"), .opq (.exo "NoText"), .opq (.exo "NoRow"), .opq (.exm "TooMany" a b)]) T = .ok (.lst ((kE a b).map D.opq)) T := rfl
      have e9 : dIx (.lst ((kE a b).map D.opq)) (.int 9) T = .ok (.opq (.exm "TooMany" a b)) T := rfl
      have tm : (("TooMany" : Str) = "TooMany") = True := by simp
      have nm : (("most" : Str) = "many") = False := by
        rw [eq_iff_iff, iff_false]
        decide +kernel
      have mm : (("many" : Str) = "many") = True := by simp
      have nn : (("most" : Str) = "most") = True := by simp
      simp only [sReg, sSeq, sIf, sRet, sAsg, sPar, sDrop, sNext, sPre, sWipe, Fl.wipe, wipeD, Tgt.asg, setAll, bOr, bAnd, bNot, tOfE, asB, asI, eIf, eAnd, eOr, eNot, eNeg, eVar, eC, eOp, eCB, eChain, eRev, aCons, aNil, eTup, eLst, mkTup, mkLst, eSl, oSome, oNone, iSeq, iCall, walked, srcOf_tup, srcOf_lst, opt_some, opt_none, dAdd_ii, dInt0_ii, dLt_ii, dInt1_bl, dEq_int, dNe_int, dEq_bl, dNe_bl, bind_ok, bind_no, bind_exc, fnD, startD, endOf_rt, endOf_nx, endOf_exc, List.map_cons, List.map_nil, List.length_cons, List.length_nil, List.cons_append, List.nil_append, List.getElem?_cons_zero, List.getElem?_cons_succ, List.set_cons_zero, List.set_cons_succ, List.replicate, if_true, if_false, Bool.false_eq_true, Bool.true_eq_false, Nat.reduceAdd, Nat.reduceSub, Nat.reduceEqDiff, reduceIte, ite_self, e0, e1, e2, p6, t1, t2, eExo, eExm, exm2, s6, s4, ea]
      rw [for_same ((List.range 10).map fun i => .tup [dN i, .opq ((kE a b).getD i (.exo ""))]) (S' := T) (by simp only [sSeq, sIf, sRet, sAsg, sPar, sDrop, sNext, sPre, sWipe, Fl.wipe, wipeD, Tgt.asg, setAll, bOr, bAnd, bNot, tOfE, asB, asI, eIf, eAnd, eOr, eNot, eNeg, eVar, eC, eOp, eCB, eChain, eRev, aCons, aNil, eTup, eLst, mkTup, mkLst, eSl, oSome, oNone, iSeq, iCall, walked, srcOf_tup, srcOf_lst, opt_some, opt_none, dAdd_ii, dInt0_ii, dLt_ii, dInt1_bl, dEq_int, dNe_int, dEq_bl, dNe_bl, bind_ok, bind_no, bind_exc, fnD, startD, endOf_rt, endOf_nx, endOf_exc, List.map_cons, List.map_nil, List.length_cons, List.length_nil, List.cons_append, List.nil_append, List.getElem?_cons_zero, List.getElem?_cons_succ, List.set_cons_zero, List.set_cons_succ, List.replicate, if_true, if_false, Bool.false_eq_true, Bool.true_eq_false, Nat.reduceAdd, Nat.reduceSub, Nat.reduceEqDiff, reduceIte, ite_self]; rfl) (fun d hd => ?_)]
      · have cS := F_law_classes_ok (k := .exo "SwitchError") (x := "SwitchError") T rfl (by decide +kernel)
        rw [cls_S] at cS
        have iB : ∀ T, dInB (.bl true) (.lst ((List.replicate 10 false).map D.bl)) T = .ok (.bl false) T := fun T => rfl
        have vS := isV_ve (k := .exo "SwitchError") (x := "SwitchError") T rfl (by decide +kernel)
        simp only [sSeq, sIf, sRet, sAsg, sPar, sDrop, sNext, sPre, sWipe, Fl.wipe, wipeD, Tgt.asg, setAll, bOr, bAnd, bNot, tOfE, asB, asI, eIf, eAnd, eOr, eNot, eNeg, eVar, eC, eOp, eCB, eChain, eRev, aCons, aNil, eTup, eLst, mkTup, mkLst, eSl, oSome, oNone, iSeq, iCall, walked, srcOf_tup, srcOf_lst, opt_some, opt_none, dAdd_ii, dInt0_ii, dLt_ii, dInt1_bl, dEq_int, dNe_int, dEq_bl, dNe_bl, bind_ok, bind_no, bind_exc, fnD, startD, endOf_rt, endOf_nx, endOf_exc, List.map_cons, List.map_nil, List.length_cons, List.length_nil, List.cons_append, List.nil_append, List.getElem?_cons_zero, List.getElem?_cons_succ, List.set_cons_zero, List.set_cons_succ, List.replicate, if_true, if_false, Bool.false_eq_true, Bool.true_eq_false, Nat.reduceAdd, Nat.reduceSub, Nat.reduceEqDiff, reduceIte, ite_self, eFldV, e9, tm, nm, mm, nn, s2, ru, nu, cS, iB, vS, Bool.not_true]
        subst hT
        exact regE_cut rfl
      · obtain ⟨i, hi, rfl⟩ := List.mem_map.mp hd
        have hi := List.mem_range.mp hi
        have nk := kE_name a b i hi
        have mk := name_mem i hi
        have c1 := F_law_classes_ok T nk mk
        rw [cls_at i hi] at c1
        have g1 : ∀ T, dIsV [.opq ((kE a b).getD i (.exo "")), .gl "SwitchError"] T = .ok (.bl true) T := fun T => by rw [isV_gl T nk mk (by decide +kernel), sub_S]
        have g2 : ∀ T, dIsV [.opq ((kE a b).getD i (.exo "")), .ty "ValueError"] T = .ok (.bl true) T := fun T => isV_ve T nk mk
        refine ⟨_, rfl, ?_⟩
        generalize (kE a b).getD i (.exo "") = o at c1 g1 g2
        simp only [sSeq, sIf, sRet, sAsg, sPar, sDrop, sNext, sPre, sWipe, Fl.wipe, wipeD, Tgt.asg, setAll, bOr, bAnd, bNot, tOfE, asB, asI, eIf, eAnd, eOr, eNot, eNeg, eVar, eC, eOp, eCB, eChain, eRev, aCons, aNil, eTup, eLst, mkTup, mkLst, eSl, oSome, oNone, iSeq, iCall, walked, srcOf_tup, srcOf_lst, opt_some, opt_none, dAdd_ii, dInt0_ii, dLt_ii, dInt1_bl, dEq_int, dNe_int, dEq_bl, dNe_bl, bind_ok, bind_no, bind_exc, fnD, startD, endOf_rt, endOf_nx, endOf_exc, List.map_cons, List.map_nil, List.length_cons, List.length_nil, List.cons_append, List.nil_append, List.getElem?_cons_zero, List.getElem?_cons_succ, List.set_cons_zero, List.set_cons_succ, List.replicate, if_true, if_false, Bool.false_eq_true, Bool.true_eq_false, Nat.reduceAdd, Nat.reduceSub, Nat.reduceEqDiff, reduceIte, ite_self, c1]
        rw [comp_map (List.range 10) dN (fun p => .bl (decide (p = i))) (its := ((List.range 10).map dN, [])) (by simp only [sSeq, sIf, sRet, sAsg, sPar, sDrop, sNext, sPre, sWipe, Fl.wipe, wipeD, Tgt.asg, setAll, bOr, bAnd, bNot, tOfE, asB, asI, eIf, eAnd, eOr, eNot, eNeg, eVar, eC, eOp, eCB, eChain, eRev, aCons, aNil, eTup, eLst, mkTup, mkLst, eSl, oSome, oNone, iSeq, iCall, walked, srcOf_tup, srcOf_lst, opt_some, opt_none, dAdd_ii, dInt0_ii, dLt_ii, dInt1_bl, dEq_int, dNe_int, dEq_bl, dNe_bl, bind_ok, bind_no, bind_exc, fnD, startD, endOf_rt, endOf_nx, endOf_exc, List.map_cons, List.map_nil, List.length_cons, List.length_nil, List.cons_append, List.nil_append, List.getElem?_cons_zero, List.getElem?_cons_succ, List.set_cons_zero, List.set_cons_succ, List.replicate, if_true, if_false, Bool.false_eq_true, Bool.true_eq_false, Nat.reduceAdd, Nat.reduceSub, Nat.reduceEqDiff, reduceIte, ite_self]; exact rng1_nat (n := 10) _ (by decide)) rfl (okNil _ _) (fun p hp => ⟨_, rfl, by simp only [sSeq, sIf, sRet, sAsg, sPar, sDrop, sNext, sPre, sWipe, Fl.wipe, wipeD, Tgt.asg, setAll, bOr, bAnd, bNot, tOfE, asB, asI, eIf, eAnd, eOr, eNot, eNeg, eVar, eC, eOp, eCB, eChain, eRev, aCons, aNil, eTup, eLst, mkTup, mkLst, eSl, oSome, oNone, iSeq, iCall, walked, srcOf_tup, srcOf_lst, opt_some, opt_none, dAdd_ii, dInt0_ii, dLt_ii, dInt1_bl, dEq_int, dNe_int, dEq_bl, dNe_bl, bind_ok, bind_no, bind_exc, fnD, startD, endOf_rt, endOf_nx, endOf_exc, List.map_cons, List.map_nil, List.length_cons, List.length_nil, List.cons_append, List.nil_append, List.getElem?_cons_zero, List.getElem?_cons_succ, List.set_cons_zero, List.set_cons_succ, List.replicate, if_true, if_false, Bool.false_eq_true, Bool.true_eq_false, Nat.reduceAdd, Nat.reduceSub, Nat.reduceEqDiff, reduceIte, ite_self, dN, dEq_int]; congr 3; exact propext ⟨fun h => by omega, fun h => by omega⟩⟩) (by simp)]
        have same : ∀ T, dNe (.lst (((List.range 10).map fun p => decide (p = i)).map D.bl)) (.lst ((List.range 10).map fun p => D.bl (decide (p = i)))) T = .ok (.bl false) T := fun T => by
          rw [show ((List.range 10).map fun p => D.bl (decide (p = i))) = ((List.range 10).map fun p => decide (p = i)).map D.bl by rw [List.map_map]; rfl]
          exact dNe_bls _ T
        simp only [sSeq, sIf, sRet, sAsg, sPar, sDrop, sNext, sPre, sWipe, Fl.wipe, wipeD, Tgt.asg, setAll, bOr, bAnd, bNot, tOfE, asB, asI, eIf, eAnd, eOr, eNot, eNeg, eVar, eC, eOp, eCB, eChain, eRev, aCons, aNil, eTup, eLst, mkTup, mkLst, eSl, oSome, oNone, iSeq, iCall, walked, srcOf_tup, srcOf_lst, opt_some, opt_none, dAdd_ii, dInt0_ii, dLt_ii, dInt1_bl, dEq_int, dNe_int, dEq_bl, dNe_bl, bind_ok, bind_no, bind_exc, fnD, startD, endOf_rt, endOf_nx, endOf_exc, List.map_cons, List.map_nil, List.length_cons, List.length_nil, List.cons_append, List.nil_append, List.getElem?_cons_zero, List.getElem?_cons_succ, List.set_cons_zero, List.set_cons_succ, List.replicate, if_true, if_false, Bool.false_eq_true, Bool.true_eq_false, Nat.reduceAdd, Nat.reduceSub, Nat.reduceEqDiff, reduceIte, ite_self, same, g1, g2, Bool.not_true]
  obtain ⟨ρ2, S2, e2, e3, e4⟩ := key
  rw [e2, e3, e4]
  exact ⟨[], by simp only [sSeq, sIf, sRet, sAsg, sPar, sDrop, sNext, sPre, sWipe, Fl.wipe, wipeD, Tgt.asg, setAll, bOr, bAnd, bNot, tOfE, asB, asI, eIf, eAnd, eOr, eNot, eNeg, eVar, eC, eOp, eCB, eChain, eRev, aCons, aNil, eTup, eLst, mkTup, mkLst, eSl, oSome, oNone, iSeq, iCall, walked, srcOf_tup, srcOf_lst, opt_some, opt_none, dAdd_ii, dInt0_ii, dLt_ii, dInt1_bl, dEq_int, dNe_int, dEq_bl, dNe_bl, bind_ok, bind_no, bind_exc, fnD, startD, endOf_rt, endOf_nx, endOf_exc, List.map_cons, List.map_nil, List.length_cons, List.length_nil, List.cons_append, List.nil_append, List.getElem?_cons_zero, List.getElem?_cons_succ, List.set_cons_zero, List.set_cons_succ, List.replicate, if_true, if_false, Bool.false_eq_true, Bool.true_eq_false, Nat.reduceAdd, Nat.reduceSub, Nat.reduceEqDiff, reduceIte, ite_self, leave_same]⟩
end Ls
namespace Ls
open PySem PySem.Spec PyProof.Rows L2
def topS (i : Nat) : Stmt := PySem.Challenge.pw_lineswitch_k94_errors_made.main.body.getD i (.Pass ⟨0, 0, 0, 0⟩)
abbrev s__law_cell : Stmt := topS 13
abbrev s__law_mix : Stmt := topS 14
abbrev s__law_box : Stmt := topS 15
abbrev s__law_take : Stmt := topS 16
abbrev s__law_wide_box : Stmt := topS 17
abbrev s__law_classes : Stmt := topS 18
abbrev s_law : Stmt := topS 19
abbrev s_init : Stmt := clsSt (topS 11) 0
theorem sc_init : FnScope ["self", "many", "most"] ["self", "many", "most"] (defScope s_init) := ⟨rfl, rfl, rfl, by decide +kernel, rfl, by decide +kernel, by decide +kernel⟩
theorem sc__law_cell : FnScope ["_law_script", "_law_k"] ["_law_script", "_law_k"] (defScope s__law_cell) := ⟨rfl, rfl, rfl, by decide +kernel, rfl, by decide +kernel, by decide +kernel⟩
theorem sc__law_mix : FnScope ["_law_cell_here", "_law_k", "_law_number"] ["_law_cell_here", "_law_k"] (defScope s__law_mix) := ⟨rfl, rfl, rfl, by decide +kernel, rfl, by decide +kernel, by decide +kernel⟩
theorem sc__law_box : FnScope ["_law_script", "_law_k", "_law_here", "_law_number", "_law_j"] ["_law_script", "_law_k"] (defScope s__law_box) := ⟨rfl, rfl, rfl, by decide +kernel, rfl, by decide +kernel, by decide +kernel⟩
theorem sc__law_take : FnScope ["_law_box_here", "_law_many", "_law_left", "_law_digit"] ["_law_box_here", "_law_many"] (defScope s__law_take) := ⟨rfl, rfl, rfl, by decide +kernel, rfl, by decide +kernel, by decide +kernel⟩
theorem sc__law_wide_box : FnScope ["_law_box_here", "_law_number", "_law_many", "_law_j"] ["_law_box_here"] (defScope s__law_wide_box) := ⟨rfl, rfl, rfl, by decide +kernel, rfl, by decide +kernel, by decide +kernel⟩
theorem sc__law_classes : FnScope ["_law_e", "_law_found"] ["_law_e"] (defScope s__law_classes) := ⟨rfl, rfl, rfl, by decide +kernel, rfl, by decide +kernel, by decide +kernel⟩
theorem sc_law : FnScope ["_law_script", "_law_signs", "_law_k", "_law_box_here", "_law_text", "_law_one", "_law_other", "_law_made", "_law_at", "_law_e", "_law_plain", "_law_sign", "_law_place"] ["_law_script"] (defScope s_law) := ⟨rfl, rfl, rfl, by decide +kernel, rfl, by decide +kernel, by decide +kernel⟩
structure Tx (K : PySem.W.Frag) (mg : Str → Option Value) where
  f__law_cell : Addr
  d__law_cell : FuncData
  F__law_cell : Fun K "_law_cell" "_law_cell" s__law_cell f__law_cell d__law_cell
  m__law_cell : mg "_law_cell" = some (.ref f__law_cell)
  b__law_cell : Binds K d__law_cell ["_law_script", "_law_k"] []
  f__law_mix : Addr
  d__law_mix : FuncData
  F__law_mix : Fun K "_law_mix" "_law_mix" s__law_mix f__law_mix d__law_mix
  m__law_mix : mg "_law_mix" = some (.ref f__law_mix)
  b__law_mix : Binds K d__law_mix ["_law_cell_here", "_law_k"] []
  f__law_box : Addr
  d__law_box : FuncData
  F__law_box : Fun K "_law_box" "_law_box" s__law_box f__law_box d__law_box
  m__law_box : mg "_law_box" = some (.ref f__law_box)
  b__law_box : Binds K d__law_box ["_law_script", "_law_k"] []
  f__law_take : Addr
  d__law_take : FuncData
  F__law_take : Fun K "_law_take" "_law_take" s__law_take f__law_take d__law_take
  m__law_take : mg "_law_take" = some (.ref f__law_take)
  b__law_take : Binds K d__law_take ["_law_box_here", "_law_many"] []
  f__law_wide_box : Addr
  d__law_wide_box : FuncData
  F__law_wide_box : Fun K "_law_wide_box" "_law_wide_box" s__law_wide_box f__law_wide_box d__law_wide_box
  m__law_wide_box : mg "_law_wide_box" = some (.ref f__law_wide_box)
  b__law_wide_box : Binds K d__law_wide_box ["_law_box_here"] []
  f__law_classes : Addr
  d__law_classes : FuncData
  F__law_classes : Fun K "_law_classes" "_law_classes" s__law_classes f__law_classes d__law_classes
  m__law_classes : mg "_law_classes" = some (.ref f__law_classes)
  b__law_classes : Binds K d__law_classes ["_law_e"] []
  f_law : Addr
  d_law : FuncData
  F_law : Fun K "law" "law" s_law f_law d_law
  m_law : mg "law" = some (.ref f_law)
  b_law : Binds K d_law ["_law_script"] []
  z_ValueError : mg "ValueError" = none
  z_divmod : mg "divmod" = none
  z_enumerate : mg "enumerate" = none
  z_isinstance : mg "isinstance" = none
  z_len : mg "len" = none
  z_max : mg "max" = none
  z_min : mg "min" = none
  z_range : mg "range" = none
  z_repr : mg "repr" = none
  C_S : Addr
  er : ErrsOk K mg C_S
  C_NoBoard : Addr
  e_NoBoard : ErrF K mg C_S "NoBoard" C_NoBoard
  C_NoLine : Addr
  e_NoLine : ErrF K mg C_S "NoLine" C_NoLine
  C_NoSwitching : Addr
  e_NoSwitching : ErrF K mg C_S "NoSwitching" C_NoSwitching
  C_NoNumber : Addr
  e_NoNumber : ErrF K mg C_S "NoNumber" C_NoNumber
  C_Unlike : Addr
  e_Unlike : ErrF K mg C_S "Unlike" C_Unlike
  C_NoNet : Addr
  e_NoNet : ErrF K mg C_S "NoNet" C_NoNet
  C_NoPlace : Addr
  e_NoPlace : ErrF K mg C_S "NoPlace" C_NoPlace
  C_NoText : Addr
  e_NoText : ErrF K mg C_S "NoText" C_NoText
  C_NoRow : Addr
  e_NoRow : ErrF K mg C_S "NoRow" C_NoRow
  C_TooMany : Addr
  e_TooMany : ErrF K mg C_S "TooMany" C_TooMany
  x_NoBoard : ErrT K mg "NoBoard" C_NoBoard
  x_NoLine : ErrT K mg "NoLine" C_NoLine
  x_NoNet : ErrT K mg "NoNet" C_NoNet
  x_NoNumber : ErrT K mg "NoNumber" C_NoNumber
  x_NoPlace : ErrT K mg "NoPlace" C_NoPlace
  x_NoRow : ErrT K mg "NoRow" C_NoRow
  x_NoSwitching : ErrT K mg "NoSwitching" C_NoSwitching
  x_NoText : ErrT K mg "NoText" C_NoText
  x_SwitchError : ErrT K mg "SwitchError" C_S
  x_Unlike : ErrT K mg "Unlike" C_Unlike
  ev : ErvOk K mg
  y_TooMany : ErrM K mg "TooMany" C_TooMany
  f_init : Addr
  d_init : FuncData
  i_TooMany : PySem.W.findIn K (.ref C_TooMany) "__init__" = some (some (.ref f_init))
  j_TooMany : PySem.W.typeIn K (.ref f_init) = some (.type "function")
  F_init : Fun K "__init__" "TooMany.__init__" s_init f_init d_init
  b_init : Binds K d_init ["self", "many", "most"] []
  s1 : PySem.W.specialIn K (.ref C_S) "__getattribute__" = some (some (.builtin "type.__getattribute__"))
  s2 : PySem.W.typeIn K (.ref C_S) = some (.type "type")
  s3 : PySem.W.readsIn K C_S (.type "type") = true
  s4 : PySem.W.findCls K (.ref C_S) (.type "type") "__init__" = some (.val (.builtin "ValueError.__init__"))
section
variable {P : Program} {w : World} {K : PySem.W.Frag} {mg : Str → Option Value} {base : Heap} {T : Tb}
theorem ok_init (t : Tx K mg) : FnOk P w K mg base (L2.CX P w) 1 t.f_init t.d_init ["self", "many", "most"] (spInit K) := init_ok t.F_init sc_init rfl (fun _ => ⟨_, rfl⟩) t.er.s rfl ⟨rfl, rfl, rfl⟩ t.s1 t.s2 t.s3 t.s4
theorem ok__law_cell (t : Tx K mg) : FnQ true P w K mg base (L2.CX P w) 1 t.f__law_cell t.d__law_cell ["_law_script", "_law_k"] (spF ⟨K, mg, T, none⟩ 2 F__law_cell) :=
  fnD_ok (k := 0) (N := ["_law_script", "_law_k"]) (ps := ["_law_script", "_law_k"]) leave_ok t.F__law_cell sc__law_cell fun cdv A outer s H E hr => (
    have nd := sc__law_cell.nd
    (dss_cons (ds_if (dt_lt hr.units0 (de_var 1) (de_len t.z_len (da_cons (de_var 0) da_nil))) (dss_one (ds_ret (de_sub1 (de_var 0) (de_var 1)))) dss_nil)
 (dss_one (ds_ret (de_add (de_mul de_int (de_var 1)) de_int)))))
theorem ok__law_mix (t : Tx K mg) : FnQ true P w K mg base (L2.CX P w) 1 t.f__law_mix t.d__law_mix ["_law_cell_here", "_law_k"] (spF ⟨K, mg, T, none⟩ 2 F__law_mix) :=
  fnD_ok (k := 0) (N := ["_law_cell_here", "_law_k", "_law_number"]) (ps := ["_law_cell_here", "_law_k"]) leave_ok t.F__law_mix sc__law_mix fun cdv A outer s H E hr => (
    have nd := sc__law_mix.nd
    (dss_cons (ds_set (i := 2) nd (de_add (de_mul (de_add (de_var 0) de_int) de_int) (de_mul de_int (de_var 1))))
 (dss_cons (ds_set (i := 2) nd (de_add (de_mod (de_mul (de_var 2) (de_var 2)) de_int) (de_var 1)))
 (dss_one (ds_ret (de_mod (de_mul (de_var 2) (de_add (de_var 2) de_int)) de_int))))))
theorem ok__law_box (t : Tx K mg) : FnQ true P w K mg base (L2.CX P w) 2 t.f__law_box t.d__law_box ["_law_script", "_law_k"] (spF ⟨K, mg, T, none⟩ 2 F__law_box) :=
  fnD_ok (k := 1) (N := ["_law_script", "_law_k", "_law_here", "_law_number", "_law_j"]) (ps := ["_law_script", "_law_k"]) leaveC_ok t.F__law_box sc__law_box fun cdv A outer s H E hr => (
    have nd := sc__law_box.nd
    have tk : Takes (cxOf (L2.CX P w) P w K mg base ["_law_script", "_law_k", "_law_here", "_law_number", "_law_j"] "_law_box" (defScope s__law_box) t.f__law_box cdv A outer s H E) (fun cls d _ H => (XW.mk T (some E) none).wish cls d H) := takes_of rfl rfl rfl rfl
    have po : PassesOwn (model P w) _ _ (cxOf (L2.CX P w) P w K mg base ["_law_script", "_law_k", "_law_here", "_law_number", "_law_j"] "_law_box" (defScope s__law_box) t.f__law_box cdv A outer s H E).xe := passes_of (X := cxOf (L2.CX P w) P w K mg base ["_law_script", "_law_k", "_law_here", "_law_number", "_law_j"] "_law_box" (defScope s__law_box) t.f__law_box cdv A outer s H E) rfl
    (dss_cons (ds_set (i := 2) nd (de_call (ok__law_cell t) (hr.mono (by decide)) tk t.m__law_cell t.F__law_cell.kp t.b__law_cell (da_cons (de_var 0) (da_cons (de_var 1) da_nil))))
 (dss_cons (ds_if (dt_eq hr.units (de_mod (de_var 2) de_int) de_int) (dss_one (ds_ret (de_cel (da_cons (de_fdiv (de_var 2) de_int) da_nil)))) dss_nil)
 (dss_cons (ds_set (i := 3) nd de_int)
 (dss_cons (ds_pre [4] (ds_for po (di_range1 t.z_range (da_cons de_int da_nil)) (dg_name (i := 4) nd) (dss_wipe [4] (dss_one (ds_set (i := 3) nd (de_add (de_mul (de_var 3) de_int) (de_call (ok__law_mix t) (hr.mono (by decide)) tk t.m__law_mix t.F__law_mix.kp t.b__law_mix (da_cons (de_var 2) (da_cons (de_var 4) da_nil)))))))))
 (dss_one (ds_ret (de_cel (da_cons (de_var 3) da_nil)))))))))
theorem ok__law_take (t : Tx K mg) : FnQ true P w K mg base (L2.CX P w) 1 t.f__law_take t.d__law_take ["_law_box_here", "_law_many"] (spF ⟨K, mg, T, none⟩ 2 F__law_take) :=
  fnD_ok (k := 0) (N := ["_law_box_here", "_law_many", "_law_left", "_law_digit"]) (ps := ["_law_box_here", "_law_many"]) leave_ok t.F__law_take sc__law_take fun cdv A outer s H E hr => (
    have nd := sc__law_take.nd
    (dss_cons (ds_asg (de_divmod t.z_divmod (da_cons (de_sub1 (de_var 0) de_int) (da_cons (de_var 1) da_nil))) (dg_tup (dgs_cons (dg_name (i := 2) nd) (dgs_cons (dg_name (i := 3) nd) dgs_nil))))
 (dss_cons (ds_setIx (de_var 0) de_int (de_var 2))
 (dss_one (ds_ret (de_var 3))))))
theorem ok__law_wide_box (t : Tx K mg) : FnQ true P w K mg base (L2.CX P w) 2 t.f__law_wide_box t.d__law_wide_box ["_law_box_here"] (spF ⟨K, mg, T, none⟩ 1 F__law_wide_box) :=
  fnD_ok (k := 1) (N := ["_law_box_here", "_law_number", "_law_many", "_law_j"]) (ps := ["_law_box_here"]) leaveC_ok t.F__law_wide_box sc__law_wide_box fun cdv A outer s H E hr => (
    have nd := sc__law_wide_box.nd
    have tk : Takes (cxOf (L2.CX P w) P w K mg base ["_law_box_here", "_law_number", "_law_many", "_law_j"] "_law_wide_box" (defScope s__law_wide_box) t.f__law_wide_box cdv A outer s H E) (fun cls d _ H => (XW.mk T (some E) none).wish cls d H) := takes_of rfl rfl rfl rfl
    have po : PassesOwn (model P w) _ _ (cxOf (L2.CX P w) P w K mg base ["_law_box_here", "_law_number", "_law_many", "_law_j"] "_law_wide_box" (defScope s__law_wide_box) t.f__law_wide_box cdv A outer s H E).xe := passes_of (X := cxOf (L2.CX P w) P w K mg base ["_law_box_here", "_law_number", "_law_many", "_law_j"] "_law_wide_box" (defScope s__law_wide_box) t.f__law_wide_box cdv A outer s H E) rfl
    (dss_cons (ds_par (i := 1) (j := 2) nd (by decide) (da_cons (de_call (ok__law_take t) (hr.mono (by decide)) tk t.m__law_take t.F__law_take.kp t.b__law_take (da_cons (de_var 0) (da_cons de_int da_nil))) (da_cons de_int da_nil)))
 (dss_cons (ds_pre [3] (ds_for po (di_range1 t.z_range (da_cons de_int da_nil)) (dg_name (i := 3) nd) (dss_wipe [3] (dss_cons (ds_set (i := 1) nd (de_mod (de_add (de_add (de_mul (de_var 1) de_int) de_int) (de_var 3)) de_int))
 (dss_one (ds_set (i := 2) nd (de_add (de_mul (de_var 2) de_int) (de_var 1))))))))
 (dss_one (ds_ret (de_cel (da_cons (de_var 2) da_nil)))))))
theorem ok__law_classes (t : Tx K mg) : FnQ true P w K mg base (L2.CX P w) 1 t.f__law_classes t.d__law_classes ["_law_e"] (spF ⟨K, mg, T, none⟩ 1 F__law_classes) :=
  fnD_ok (k := 0) (N := ["_law_e", "_law_found"]) (ps := ["_law_e"]) leave_ok t.F__law_classes sc__law_classes fun cdv A outer s H E hr => (
    have nd := sc__law_classes.nd
    (dss_cons (ds_set (i := 1) nd (de_lst (da_cons (de_isV t.ev t.z_isinstance (da_cons (de_var 0) (da_cons (de_gl t.e_NoBoard.g) da_nil))) (da_cons (de_isV t.ev t.z_isinstance (da_cons (de_var 0) (da_cons (de_gl t.e_NoLine.g) da_nil))) (da_cons (de_isV t.ev t.z_isinstance (da_cons (de_var 0) (da_cons (de_gl t.e_NoSwitching.g) da_nil))) (da_cons (de_isV t.ev t.z_isinstance (da_cons (de_var 0) (da_cons (de_gl t.e_NoNumber.g) da_nil))) da_nil))))))
 (dss_cons (ds_set (i := 1) nd (de_add (de_var 1) (de_lst (da_cons (de_isV t.ev t.z_isinstance (da_cons (de_var 0) (da_cons (de_gl t.e_Unlike.g) da_nil))) (da_cons (de_isV t.ev t.z_isinstance (da_cons (de_var 0) (da_cons (de_gl t.e_NoNet.g) da_nil))) (da_cons (de_isV t.ev t.z_isinstance (da_cons (de_var 0) (da_cons (de_gl t.e_NoPlace.g) da_nil))) (da_cons (de_isV t.ev t.z_isinstance (da_cons (de_var 0) (da_cons (de_gl t.e_NoText.g) da_nil))) da_nil)))))))
 (dss_one (ds_ret (de_add (de_var 1) (de_lst (da_cons (de_isV t.ev t.z_isinstance (da_cons (de_var 0) (da_cons (de_gl t.e_NoRow.g) da_nil))) (da_cons (de_isV t.ev t.z_isinstance (da_cons (de_var 0) (da_cons (de_gl t.e_TooMany.g) da_nil))) da_nil)))))))))
end
end Ls
namespace Ls
open PySem PySem.Spec PyProof.Rows L2
section
variable {P : Program} {w : World} {K : PySem.W.Frag} {mg : Str → Option Value} {base : Heap} {T : Tb}
theorem ok_law (t : Tx K mg) : FnQ true P w K mg base (L2.CX P w) 3 t.f_law t.d_law ["_law_script"] (spF ⟨K, mg, T, none⟩ 1 F_law) :=
  fnD_ok (k := 2) (N := ["_law_script", "_law_signs", "_law_k", "_law_box_here", "_law_text", "_law_one", "_law_other", "_law_made", "_law_at", "_law_e", "_law_plain", "_law_sign", "_law_place"]) (ps := ["_law_script"]) leave_ok t.F_law sc_law fun cdv A outer s H E hr => (
    have nd := sc_law.nd
    have tk : Takes (cxOf (L2.CX P w) P w K mg base ["_law_script", "_law_signs", "_law_k", "_law_box_here", "_law_text", "_law_one", "_law_other", "_law_made", "_law_at", "_law_e", "_law_plain", "_law_sign", "_law_place"] "law" (defScope s_law) t.f_law cdv A outer s H E) (fun cls d _ H => (XW.mk T (some E) none).wish cls d H) := takes_of rfl rfl rfl rfl
    have po : PassesOwn (model P w) _ _ (cxOf (L2.CX P w) P w K mg base ["_law_script", "_law_signs", "_law_k", "_law_box_here", "_law_text", "_law_one", "_law_other", "_law_made", "_law_at", "_law_e", "_law_plain", "_law_sign", "_law_place"] "law" (defScope s_law) t.f_law cdv A outer s H E).xe := passes_of (X := cxOf (L2.CX P w) P w K mg base ["_law_script", "_law_signs", "_law_k", "_law_box_here", "_law_text", "_law_one", "_law_other", "_law_made", "_law_at", "_law_e", "_law_plain", "_law_sign", "_law_place"] "law" (defScope s_law) t.f_law cdv A outer s H E) rfl
    (dss_cons (ds_set (i := 1) nd de_str)
 (dss_cons (ds_set (i := 1) nd (de_add (de_var 1) de_str))
 (dss_cons (ds_pre [2, 3, 4, 5, 6, 7, 8, 9, 10] (ds_for po (di_range1 t.z_range (da_cons (de_max2 t.z_max (da_cons de_int (da_cons (de_min2 t.z_min (da_cons (de_len t.z_len (da_cons (de_var 0) da_nil)) (da_cons de_int da_nil))) da_nil))) da_nil)) (dg_name (i := 2) nd) (dss_reg (dss_wipe [2, 3, 4, 5, 6, 7, 8, 9, 10] (dss_cons (ds_set (i := 3) nd (de_call (ok__law_wide_box t) (hr.mono (by decide)) tk t.m__law_wide_box t.F__law_wide_box.kp t.b__law_wide_box (da_cons (de_call (ok__law_box t) (hr.mono (by decide)) tk t.m__law_box t.F__law_box.kp t.b__law_box (da_cons (de_var 0) (da_cons (de_var 2) da_nil))) da_nil)))
 (dss_cons (ds_set (i := 4) nd (de_join de_str (da_cons (de_lc [("_law_sign", 11)] finL_ok nd (blkOk_by (by kernel_rfl)) (di_range1 t.z_range (da_cons (de_call (ok__law_take t) (hr.mono (by decide)) tk t.m__law_take t.F__law_take.kp t.b__law_take (da_cons (de_var 3) (da_cons de_int da_nil))) da_nil)) (fun _ _ _ _ _ => (dg_name (i := 11) nd)) (fun _ _ _ _ _ => dts_nil) (fun _ _ _ _ _ => (de_sub1 (de_var 1) (de_call (ok__law_take t) (hr.mono (by decide)) takesN t.m__law_take t.F__law_take.kp t.b__law_take (da_cons (de_var 3) (da_cons de_int da_nil)))))) da_nil)))
 (dss_cons (ds_par (i := 5) (j := 6) nd (by decide) (da_cons (de_call (ok__law_take t) (hr.mono (by decide)) tk t.m__law_take t.F__law_take.kp t.b__law_take (da_cons (de_var 3) (da_cons (de_pow de_int de_int) da_nil))) (da_cons (de_call (ok__law_take t) (hr.mono (by decide)) tk t.m__law_take t.F__law_take.kp t.b__law_take (da_cons (de_var 3) (da_cons (de_pow de_int de_int) da_nil))) da_nil)))
 (dss_cons (ds_set (i := 7) nd (de_lst (da_cons (de_exo t.x_NoBoard (de_var 4)) (da_cons (de_exo t.x_NoLine (de_var 4)) (da_cons (de_exo t.x_NoSwitching (de_var 4)) (da_cons (de_exo t.x_NoNumber (de_var 4)) (da_cons (de_exo t.x_Unlike (de_var 4)) (da_cons (de_exo t.x_NoNet (de_var 4)) da_nil))))))))
 (dss_cons (ds_set (i := 7) nd (de_add (de_var 7) (de_lst (da_cons (de_exo t.x_NoPlace (de_var 4)) (da_cons (de_exo t.x_NoText (de_var 4)) (da_cons (de_exo t.x_NoRow (de_var 4)) (da_cons (de_exm tk t.y_TooMany t.i_TooMany t.j_TooMany (ok_init t) (hr.rm.mono (by decide)) t.b_init (da_cons (de_var 5) (da_cons (de_var 6) da_nil))) da_nil)))))))
 (dss_cons (ds_pre [8, 9] (ds_for po (di_enum t.z_enumerate (da_cons (de_var 7) da_nil)) (dg_tup (dgs_cons (dg_name (i := 8) nd) (dgs_cons (dg_name (i := 9) nd) dgs_nil))) (dss_wipe [8, 9] (dss_cons (ds_if (dt_ne hr.units (de_call (ok__law_classes t) (hr.mono (by decide)) tk t.m__law_classes t.F__law_classes.kp t.b__law_classes (da_cons (de_var 9) da_nil)) (de_lc [("_law_place", 12)] finL_ok nd (blkOk_by (by kernel_rfl)) (di_range1 t.z_range (da_cons de_int da_nil)) (fun _ _ _ _ _ => (dg_name (i := 12) nd)) (fun _ _ _ _ _ => dts_nil) (fun _ _ _ _ _ => (de_eq hr.units (de_var 12) (de_var 8))))) (dss_one (ds_ret de_bl)) dss_nil)
 (dss_one (ds_if (dw_or (dt_not (dt_val (de_isV t.ev t.z_isinstance (da_cons (de_var 9) (da_cons (de_gl t.er.s) da_nil))))) (dw_or1 (dt_not (dt_val (de_isV t.ev t.z_isinstance (da_cons (de_var 9) (da_cons (de_ty t.z_ValueError (by decide +kernel)) da_nil))))))).dt (dss_one (ds_ret de_bl)) dss_nil))))))
 (dss_cons (ds_if (dt_ne hr.units (de_repr hr t.z_repr (da_cons (de_lst (da_cons (de_fldV t.ev t.y_TooMany.n1 (de_sub1 (de_var 7) de_int)) (da_cons (de_fldV t.ev t.y_TooMany.n2 (de_sub1 (de_var 7) de_int)) da_nil))) da_nil)) (de_repr hr t.z_repr (da_cons (de_lst (da_cons (de_var 5) (da_cons (de_var 6) da_nil))) da_nil))) (dss_one (ds_ret de_bl)) dss_nil)
 (dss_cons (ds_set (i := 10) nd (de_exo t.x_SwitchError (de_var 4)))
 (dss_one (ds_if (dw_or (dt_inB de_bl (de_call (ok__law_classes t) (hr.mono (by decide)) tk t.m__law_classes t.F__law_classes.kp t.b__law_classes (da_cons (de_var 10) da_nil))) (dw_or1 (dt_not (dt_val (de_isV t.ev t.z_isinstance (da_cons (de_var 10) (da_cons (de_ty t.z_ValueError (by decide +kernel)) da_nil))))))).dt (dss_one (ds_ret de_bl)) dss_nil))))))))))))))
 (dss_one (ds_ret de_bl))))))
end
end Ls
namespace Ls
open PySem PySem.Spec PyProof.Rows L2
def tx_mk {K : PySem.W.Frag} {h : Heap} {mg : Str → Option Value} (X : K.In h) (G : h.Ns mainGlobals mg)
    {f0 : Addr} {od0 an0 : Option Addr} {sl0 : Array (Option Value)} {oc0 kV0 dc0 pm0 cd0 ct0 : Value}
    {f1 : Addr} {od1 an1 : Option Addr} {sl1 : Array (Option Value)} {oc1 kV1 dc1 pm1 cd1 ct1 : Value}
    {f2 : Addr} {od2 an2 : Option Addr} {sl2 : Array (Option Value)} {oc2 kV2 dc2 pm2 cd2 ct2 : Value}
    {f3 : Addr} {od3 an3 : Option Addr} {sl3 : Array (Option Value)} {oc3 kV3 dc3 pm3 cd3 ct3 : Value}
    {f4 : Addr} {od4 an4 : Option Addr} {sl4 : Array (Option Value)} {oc4 kV4 dc4 pm4 cd4 ct4 : Value}
    {f5 : Addr} {od5 an5 : Option Addr} {sl5 : Array (Option Value)} {oc5 kV5 dc5 pm5 cd5 ct5 : Value}
    {f6 : Addr} {od6 an6 : Option Addr} {sl6 : Array (Option Value)} {oc6 kV6 dc6 pm6 cd6 ct6 : Value}
    {C_S : Addr}
    {C_NoBoard : Addr}
    {C_NoLine : Addr}
    {C_NoSwitching : Addr}
    {C_NoNumber : Addr}
    {C_Unlike : Addr}
    {C_NoNet : Addr}
    {C_NoPlace : Addr}
    {C_NoText : Addr}
    {C_NoRow : Addr}
    {C_TooMany : Addr}
    {fI : Addr} {odI anI : Option Addr} {slI : Array (Option Value)} {ocI kVI dcI pmI cdI ctI : Value}
    (a0 : PySem.W.nsIn K mainGlobals "_law_cell" = some (some (.ref f0))) (l0 : K.lookup f0 = some ⟨oc0, od0, .func (PySem.W.fnOf "_law_cell" "_law_cell" (defArgs s__law_cell) (defBody s__law_cell) (defScope s__law_cell) .none kV0 dc0 pm0 an0 cd0 ct0), sl0⟩) (c0 : PySem.W.codeIn K cd0 "_law_cell" = true) (k0 : PySem.W.keepIn K (.ref f0) = true)
    (a1 : PySem.W.nsIn K mainGlobals "_law_mix" = some (some (.ref f1))) (l1 : K.lookup f1 = some ⟨oc1, od1, .func (PySem.W.fnOf "_law_mix" "_law_mix" (defArgs s__law_mix) (defBody s__law_mix) (defScope s__law_mix) .none kV1 dc1 pm1 an1 cd1 ct1), sl1⟩) (c1 : PySem.W.codeIn K cd1 "_law_mix" = true) (k1 : PySem.W.keepIn K (.ref f1) = true)
    (a2 : PySem.W.nsIn K mainGlobals "_law_box" = some (some (.ref f2))) (l2 : K.lookup f2 = some ⟨oc2, od2, .func (PySem.W.fnOf "_law_box" "_law_box" (defArgs s__law_box) (defBody s__law_box) (defScope s__law_box) .none kV2 dc2 pm2 an2 cd2 ct2), sl2⟩) (c2 : PySem.W.codeIn K cd2 "_law_box" = true) (k2 : PySem.W.keepIn K (.ref f2) = true)
    (a3 : PySem.W.nsIn K mainGlobals "_law_take" = some (some (.ref f3))) (l3 : K.lookup f3 = some ⟨oc3, od3, .func (PySem.W.fnOf "_law_take" "_law_take" (defArgs s__law_take) (defBody s__law_take) (defScope s__law_take) .none kV3 dc3 pm3 an3 cd3 ct3), sl3⟩) (c3 : PySem.W.codeIn K cd3 "_law_take" = true) (k3 : PySem.W.keepIn K (.ref f3) = true)
    (a4 : PySem.W.nsIn K mainGlobals "_law_wide_box" = some (some (.ref f4))) (l4 : K.lookup f4 = some ⟨oc4, od4, .func (PySem.W.fnOf "_law_wide_box" "_law_wide_box" (defArgs s__law_wide_box) (defBody s__law_wide_box) (defScope s__law_wide_box) .none kV4 dc4 pm4 an4 cd4 ct4), sl4⟩) (c4 : PySem.W.codeIn K cd4 "_law_wide_box" = true) (k4 : PySem.W.keepIn K (.ref f4) = true)
    (a5 : PySem.W.nsIn K mainGlobals "_law_classes" = some (some (.ref f5))) (l5 : K.lookup f5 = some ⟨oc5, od5, .func (PySem.W.fnOf "_law_classes" "_law_classes" (defArgs s__law_classes) (defBody s__law_classes) (defScope s__law_classes) .none kV5 dc5 pm5 an5 cd5 ct5), sl5⟩) (c5 : PySem.W.codeIn K cd5 "_law_classes" = true) (k5 : PySem.W.keepIn K (.ref f5) = true)
    (a6 : PySem.W.nsIn K mainGlobals "law" = some (some (.ref f6))) (l6 : K.lookup f6 = some ⟨oc6, od6, .func (PySem.W.fnOf "law" "law" (defArgs s_law) (defBody s_law) (defScope s_law) .none kV6 dc6 pm6 an6 cd6 ct6), sl6⟩) (c6 : PySem.W.codeIn K cd6 "law" = true) (k6 : PySem.W.keepIn K (.ref f6) = true)
    (z_ValueError : PySem.W.nsIn K mainGlobals "ValueError" = some none)
    (z_divmod : PySem.W.nsIn K mainGlobals "divmod" = some none)
    (z_enumerate : PySem.W.nsIn K mainGlobals "enumerate" = some none)
    (z_isinstance : PySem.W.nsIn K mainGlobals "isinstance" = some none)
    (z_len : PySem.W.nsIn K mainGlobals "len" = some none)
    (z_max : PySem.W.nsIn K mainGlobals "max" = some none)
    (z_min : PySem.W.nsIn K mainGlobals "min" = some none)
    (z_range : PySem.W.nsIn K mainGlobals "range" = some none)
    (z_repr : PySem.W.nsIn K mainGlobals "repr" = some none)
    (aS : PySem.W.nsIn K mainGlobals "SwitchError" = some (some (.ref C_S))) (iS : PySem.W.isClsIn K C_S = true) (tS : PySem.W.typeIn K (.ref C_S) = some (.type "type")) (bS : PySem.W.subIn K (.ref C_S) (.type "BaseException") = some true)
    (pS : PySem.W.specialIn K (.builtin "object.__class__") "__get__" = some (some (.builtin "getset_descriptor.__get__"))) (qS : PySem.W.takesIn K (.builtin "object.__class__") = some true)
    (a_NoBoard : PySem.W.nsIn K mainGlobals "NoBoard" = some (some (.ref C_NoBoard))) (i_NoBoard : PySem.W.isClsIn K C_NoBoard = true) (t_NoBoard : PySem.W.typeIn K (.ref C_NoBoard) = some (.type "type"))
    (g1_NoBoard : PySem.W.findIn K (.ref C_NoBoard) "__getattribute__" = some (some (.builtin "BaseException.__getattribute__"))) (g2_NoBoard : PySem.W.findIn K (.ref C_NoBoard) "__getattr__" = some none) (g3_NoBoard : PySem.W.subIn K (.ref C_NoBoard) (.type "BaseException") = some true) (g4_NoBoard : PySem.W.hasDictIn K C_NoBoard = true)
    (g5_NoBoard : PySem.W.findIn K (.ref C_NoBoard) "__class__" = some (some (.builtin "object.__class__"))) (g8_NoBoard : PySem.W.mroIn K C_NoBoard (.type "object") = some true) (v_NoBoard : PySem.W.subIn K (.ref C_NoBoard) (.type "ValueError") = some true) (u_NoBoard : PySem.W.subIn K (.ref C_NoBoard) (.ref C_S) = some true)
    (s_NoBoard_NoBoard : PySem.W.subIn K (.ref C_NoBoard) (.ref C_NoBoard) = some true)
    (s_NoBoard_NoLine : PySem.W.subIn K (.ref C_NoBoard) (.ref C_NoLine) = some false)
    (s_NoBoard_NoSwitching : PySem.W.subIn K (.ref C_NoBoard) (.ref C_NoSwitching) = some false)
    (s_NoBoard_NoNumber : PySem.W.subIn K (.ref C_NoBoard) (.ref C_NoNumber) = some false)
    (s_NoBoard_Unlike : PySem.W.subIn K (.ref C_NoBoard) (.ref C_Unlike) = some false)
    (s_NoBoard_NoNet : PySem.W.subIn K (.ref C_NoBoard) (.ref C_NoNet) = some false)
    (s_NoBoard_NoPlace : PySem.W.subIn K (.ref C_NoBoard) (.ref C_NoPlace) = some false)
    (s_NoBoard_NoText : PySem.W.subIn K (.ref C_NoBoard) (.ref C_NoText) = some false)
    (s_NoBoard_NoRow : PySem.W.subIn K (.ref C_NoBoard) (.ref C_NoRow) = some false)
    (s_NoBoard_TooMany : PySem.W.subIn K (.ref C_NoBoard) (.ref C_TooMany) = some false)
    (a_NoLine : PySem.W.nsIn K mainGlobals "NoLine" = some (some (.ref C_NoLine))) (i_NoLine : PySem.W.isClsIn K C_NoLine = true) (t_NoLine : PySem.W.typeIn K (.ref C_NoLine) = some (.type "type"))
    (g1_NoLine : PySem.W.findIn K (.ref C_NoLine) "__getattribute__" = some (some (.builtin "BaseException.__getattribute__"))) (g2_NoLine : PySem.W.findIn K (.ref C_NoLine) "__getattr__" = some none) (g3_NoLine : PySem.W.subIn K (.ref C_NoLine) (.type "BaseException") = some true) (g4_NoLine : PySem.W.hasDictIn K C_NoLine = true)
    (g5_NoLine : PySem.W.findIn K (.ref C_NoLine) "__class__" = some (some (.builtin "object.__class__"))) (g8_NoLine : PySem.W.mroIn K C_NoLine (.type "object") = some true) (v_NoLine : PySem.W.subIn K (.ref C_NoLine) (.type "ValueError") = some true) (u_NoLine : PySem.W.subIn K (.ref C_NoLine) (.ref C_S) = some true)
    (s_NoLine_NoBoard : PySem.W.subIn K (.ref C_NoLine) (.ref C_NoBoard) = some false)
    (s_NoLine_NoLine : PySem.W.subIn K (.ref C_NoLine) (.ref C_NoLine) = some true)
    (s_NoLine_NoSwitching : PySem.W.subIn K (.ref C_NoLine) (.ref C_NoSwitching) = some false)
    (s_NoLine_NoNumber : PySem.W.subIn K (.ref C_NoLine) (.ref C_NoNumber) = some false)
    (s_NoLine_Unlike : PySem.W.subIn K (.ref C_NoLine) (.ref C_Unlike) = some false)
    (s_NoLine_NoNet : PySem.W.subIn K (.ref C_NoLine) (.ref C_NoNet) = some false)
    (s_NoLine_NoPlace : PySem.W.subIn K (.ref C_NoLine) (.ref C_NoPlace) = some false)
    (s_NoLine_NoText : PySem.W.subIn K (.ref C_NoLine) (.ref C_NoText) = some false)
    (s_NoLine_NoRow : PySem.W.subIn K (.ref C_NoLine) (.ref C_NoRow) = some false)
    (s_NoLine_TooMany : PySem.W.subIn K (.ref C_NoLine) (.ref C_TooMany) = some false)
    (a_NoSwitching : PySem.W.nsIn K mainGlobals "NoSwitching" = some (some (.ref C_NoSwitching))) (i_NoSwitching : PySem.W.isClsIn K C_NoSwitching = true) (t_NoSwitching : PySem.W.typeIn K (.ref C_NoSwitching) = some (.type "type"))
    (g1_NoSwitching : PySem.W.findIn K (.ref C_NoSwitching) "__getattribute__" = some (some (.builtin "BaseException.__getattribute__"))) (g2_NoSwitching : PySem.W.findIn K (.ref C_NoSwitching) "__getattr__" = some none) (g3_NoSwitching : PySem.W.subIn K (.ref C_NoSwitching) (.type "BaseException") = some true) (g4_NoSwitching : PySem.W.hasDictIn K C_NoSwitching = true)
    (g5_NoSwitching : PySem.W.findIn K (.ref C_NoSwitching) "__class__" = some (some (.builtin "object.__class__"))) (g8_NoSwitching : PySem.W.mroIn K C_NoSwitching (.type "object") = some true) (v_NoSwitching : PySem.W.subIn K (.ref C_NoSwitching) (.type "ValueError") = some true) (u_NoSwitching : PySem.W.subIn K (.ref C_NoSwitching) (.ref C_S) = some true)
    (s_NoSwitching_NoBoard : PySem.W.subIn K (.ref C_NoSwitching) (.ref C_NoBoard) = some false)
    (s_NoSwitching_NoLine : PySem.W.subIn K (.ref C_NoSwitching) (.ref C_NoLine) = some false)
    (s_NoSwitching_NoSwitching : PySem.W.subIn K (.ref C_NoSwitching) (.ref C_NoSwitching) = some true)
    (s_NoSwitching_NoNumber : PySem.W.subIn K (.ref C_NoSwitching) (.ref C_NoNumber) = some false)
    (s_NoSwitching_Unlike : PySem.W.subIn K (.ref C_NoSwitching) (.ref C_Unlike) = some false)
    (s_NoSwitching_NoNet : PySem.W.subIn K (.ref C_NoSwitching) (.ref C_NoNet) = some false)
    (s_NoSwitching_NoPlace : PySem.W.subIn K (.ref C_NoSwitching) (.ref C_NoPlace) = some false)
    (s_NoSwitching_NoText : PySem.W.subIn K (.ref C_NoSwitching) (.ref C_NoText) = some false)
    (s_NoSwitching_NoRow : PySem.W.subIn K (.ref C_NoSwitching) (.ref C_NoRow) = some false)
    (s_NoSwitching_TooMany : PySem.W.subIn K (.ref C_NoSwitching) (.ref C_TooMany) = some false)
    (a_NoNumber : PySem.W.nsIn K mainGlobals "NoNumber" = some (some (.ref C_NoNumber))) (i_NoNumber : PySem.W.isClsIn K C_NoNumber = true) (t_NoNumber : PySem.W.typeIn K (.ref C_NoNumber) = some (.type "type"))
    (g1_NoNumber : PySem.W.findIn K (.ref C_NoNumber) "__getattribute__" = some (some (.builtin "BaseException.__getattribute__"))) (g2_NoNumber : PySem.W.findIn K (.ref C_NoNumber) "__getattr__" = some none) (g3_NoNumber : PySem.W.subIn K (.ref C_NoNumber) (.type "BaseException") = some true) (g4_NoNumber : PySem.W.hasDictIn K C_NoNumber = true)
    (g5_NoNumber : PySem.W.findIn K (.ref C_NoNumber) "__class__" = some (some (.builtin "object.__class__"))) (g8_NoNumber : PySem.W.mroIn K C_NoNumber (.type "object") = some true) (v_NoNumber : PySem.W.subIn K (.ref C_NoNumber) (.type "ValueError") = some true) (u_NoNumber : PySem.W.subIn K (.ref C_NoNumber) (.ref C_S) = some true)
    (s_NoNumber_NoBoard : PySem.W.subIn K (.ref C_NoNumber) (.ref C_NoBoard) = some false)
    (s_NoNumber_NoLine : PySem.W.subIn K (.ref C_NoNumber) (.ref C_NoLine) = some false)
    (s_NoNumber_NoSwitching : PySem.W.subIn K (.ref C_NoNumber) (.ref C_NoSwitching) = some false)
    (s_NoNumber_NoNumber : PySem.W.subIn K (.ref C_NoNumber) (.ref C_NoNumber) = some true)
    (s_NoNumber_Unlike : PySem.W.subIn K (.ref C_NoNumber) (.ref C_Unlike) = some false)
    (s_NoNumber_NoNet : PySem.W.subIn K (.ref C_NoNumber) (.ref C_NoNet) = some false)
    (s_NoNumber_NoPlace : PySem.W.subIn K (.ref C_NoNumber) (.ref C_NoPlace) = some false)
    (s_NoNumber_NoText : PySem.W.subIn K (.ref C_NoNumber) (.ref C_NoText) = some false)
    (s_NoNumber_NoRow : PySem.W.subIn K (.ref C_NoNumber) (.ref C_NoRow) = some false)
    (s_NoNumber_TooMany : PySem.W.subIn K (.ref C_NoNumber) (.ref C_TooMany) = some false)
    (a_Unlike : PySem.W.nsIn K mainGlobals "Unlike" = some (some (.ref C_Unlike))) (i_Unlike : PySem.W.isClsIn K C_Unlike = true) (t_Unlike : PySem.W.typeIn K (.ref C_Unlike) = some (.type "type"))
    (g1_Unlike : PySem.W.findIn K (.ref C_Unlike) "__getattribute__" = some (some (.builtin "BaseException.__getattribute__"))) (g2_Unlike : PySem.W.findIn K (.ref C_Unlike) "__getattr__" = some none) (g3_Unlike : PySem.W.subIn K (.ref C_Unlike) (.type "BaseException") = some true) (g4_Unlike : PySem.W.hasDictIn K C_Unlike = true)
    (g5_Unlike : PySem.W.findIn K (.ref C_Unlike) "__class__" = some (some (.builtin "object.__class__"))) (g8_Unlike : PySem.W.mroIn K C_Unlike (.type "object") = some true) (v_Unlike : PySem.W.subIn K (.ref C_Unlike) (.type "ValueError") = some true) (u_Unlike : PySem.W.subIn K (.ref C_Unlike) (.ref C_S) = some true)
    (s_Unlike_NoBoard : PySem.W.subIn K (.ref C_Unlike) (.ref C_NoBoard) = some false)
    (s_Unlike_NoLine : PySem.W.subIn K (.ref C_Unlike) (.ref C_NoLine) = some false)
    (s_Unlike_NoSwitching : PySem.W.subIn K (.ref C_Unlike) (.ref C_NoSwitching) = some false)
    (s_Unlike_NoNumber : PySem.W.subIn K (.ref C_Unlike) (.ref C_NoNumber) = some false)
    (s_Unlike_Unlike : PySem.W.subIn K (.ref C_Unlike) (.ref C_Unlike) = some true)
    (s_Unlike_NoNet : PySem.W.subIn K (.ref C_Unlike) (.ref C_NoNet) = some false)
    (s_Unlike_NoPlace : PySem.W.subIn K (.ref C_Unlike) (.ref C_NoPlace) = some false)
    (s_Unlike_NoText : PySem.W.subIn K (.ref C_Unlike) (.ref C_NoText) = some false)
    (s_Unlike_NoRow : PySem.W.subIn K (.ref C_Unlike) (.ref C_NoRow) = some false)
    (s_Unlike_TooMany : PySem.W.subIn K (.ref C_Unlike) (.ref C_TooMany) = some false)
    (a_NoNet : PySem.W.nsIn K mainGlobals "NoNet" = some (some (.ref C_NoNet))) (i_NoNet : PySem.W.isClsIn K C_NoNet = true) (t_NoNet : PySem.W.typeIn K (.ref C_NoNet) = some (.type "type"))
    (g1_NoNet : PySem.W.findIn K (.ref C_NoNet) "__getattribute__" = some (some (.builtin "BaseException.__getattribute__"))) (g2_NoNet : PySem.W.findIn K (.ref C_NoNet) "__getattr__" = some none) (g3_NoNet : PySem.W.subIn K (.ref C_NoNet) (.type "BaseException") = some true) (g4_NoNet : PySem.W.hasDictIn K C_NoNet = true)
    (g5_NoNet : PySem.W.findIn K (.ref C_NoNet) "__class__" = some (some (.builtin "object.__class__"))) (g8_NoNet : PySem.W.mroIn K C_NoNet (.type "object") = some true) (v_NoNet : PySem.W.subIn K (.ref C_NoNet) (.type "ValueError") = some true) (u_NoNet : PySem.W.subIn K (.ref C_NoNet) (.ref C_S) = some true)
    (s_NoNet_NoBoard : PySem.W.subIn K (.ref C_NoNet) (.ref C_NoBoard) = some false)
    (s_NoNet_NoLine : PySem.W.subIn K (.ref C_NoNet) (.ref C_NoLine) = some false)
    (s_NoNet_NoSwitching : PySem.W.subIn K (.ref C_NoNet) (.ref C_NoSwitching) = some false)
    (s_NoNet_NoNumber : PySem.W.subIn K (.ref C_NoNet) (.ref C_NoNumber) = some false)
    (s_NoNet_Unlike : PySem.W.subIn K (.ref C_NoNet) (.ref C_Unlike) = some false)
    (s_NoNet_NoNet : PySem.W.subIn K (.ref C_NoNet) (.ref C_NoNet) = some true)
    (s_NoNet_NoPlace : PySem.W.subIn K (.ref C_NoNet) (.ref C_NoPlace) = some false)
    (s_NoNet_NoText : PySem.W.subIn K (.ref C_NoNet) (.ref C_NoText) = some false)
    (s_NoNet_NoRow : PySem.W.subIn K (.ref C_NoNet) (.ref C_NoRow) = some false)
    (s_NoNet_TooMany : PySem.W.subIn K (.ref C_NoNet) (.ref C_TooMany) = some false)
    (a_NoPlace : PySem.W.nsIn K mainGlobals "NoPlace" = some (some (.ref C_NoPlace))) (i_NoPlace : PySem.W.isClsIn K C_NoPlace = true) (t_NoPlace : PySem.W.typeIn K (.ref C_NoPlace) = some (.type "type"))
    (g1_NoPlace : PySem.W.findIn K (.ref C_NoPlace) "__getattribute__" = some (some (.builtin "BaseException.__getattribute__"))) (g2_NoPlace : PySem.W.findIn K (.ref C_NoPlace) "__getattr__" = some none) (g3_NoPlace : PySem.W.subIn K (.ref C_NoPlace) (.type "BaseException") = some true) (g4_NoPlace : PySem.W.hasDictIn K C_NoPlace = true)
    (g5_NoPlace : PySem.W.findIn K (.ref C_NoPlace) "__class__" = some (some (.builtin "object.__class__"))) (g8_NoPlace : PySem.W.mroIn K C_NoPlace (.type "object") = some true) (v_NoPlace : PySem.W.subIn K (.ref C_NoPlace) (.type "ValueError") = some true) (u_NoPlace : PySem.W.subIn K (.ref C_NoPlace) (.ref C_S) = some true)
    (s_NoPlace_NoBoard : PySem.W.subIn K (.ref C_NoPlace) (.ref C_NoBoard) = some false)
    (s_NoPlace_NoLine : PySem.W.subIn K (.ref C_NoPlace) (.ref C_NoLine) = some false)
    (s_NoPlace_NoSwitching : PySem.W.subIn K (.ref C_NoPlace) (.ref C_NoSwitching) = some false)
    (s_NoPlace_NoNumber : PySem.W.subIn K (.ref C_NoPlace) (.ref C_NoNumber) = some false)
    (s_NoPlace_Unlike : PySem.W.subIn K (.ref C_NoPlace) (.ref C_Unlike) = some false)
    (s_NoPlace_NoNet : PySem.W.subIn K (.ref C_NoPlace) (.ref C_NoNet) = some false)
    (s_NoPlace_NoPlace : PySem.W.subIn K (.ref C_NoPlace) (.ref C_NoPlace) = some true)
    (s_NoPlace_NoText : PySem.W.subIn K (.ref C_NoPlace) (.ref C_NoText) = some false)
    (s_NoPlace_NoRow : PySem.W.subIn K (.ref C_NoPlace) (.ref C_NoRow) = some false)
    (s_NoPlace_TooMany : PySem.W.subIn K (.ref C_NoPlace) (.ref C_TooMany) = some false)
    (a_NoText : PySem.W.nsIn K mainGlobals "NoText" = some (some (.ref C_NoText))) (i_NoText : PySem.W.isClsIn K C_NoText = true) (t_NoText : PySem.W.typeIn K (.ref C_NoText) = some (.type "type"))
    (g1_NoText : PySem.W.findIn K (.ref C_NoText) "__getattribute__" = some (some (.builtin "BaseException.__getattribute__"))) (g2_NoText : PySem.W.findIn K (.ref C_NoText) "__getattr__" = some none) (g3_NoText : PySem.W.subIn K (.ref C_NoText) (.type "BaseException") = some true) (g4_NoText : PySem.W.hasDictIn K C_NoText = true)
    (g5_NoText : PySem.W.findIn K (.ref C_NoText) "__class__" = some (some (.builtin "object.__class__"))) (g8_NoText : PySem.W.mroIn K C_NoText (.type "object") = some true) (v_NoText : PySem.W.subIn K (.ref C_NoText) (.type "ValueError") = some true) (u_NoText : PySem.W.subIn K (.ref C_NoText) (.ref C_S) = some true)
    (s_NoText_NoBoard : PySem.W.subIn K (.ref C_NoText) (.ref C_NoBoard) = some false)
    (s_NoText_NoLine : PySem.W.subIn K (.ref C_NoText) (.ref C_NoLine) = some false)
    (s_NoText_NoSwitching : PySem.W.subIn K (.ref C_NoText) (.ref C_NoSwitching) = some false)
    (s_NoText_NoNumber : PySem.W.subIn K (.ref C_NoText) (.ref C_NoNumber) = some false)
    (s_NoText_Unlike : PySem.W.subIn K (.ref C_NoText) (.ref C_Unlike) = some false)
    (s_NoText_NoNet : PySem.W.subIn K (.ref C_NoText) (.ref C_NoNet) = some false)
    (s_NoText_NoPlace : PySem.W.subIn K (.ref C_NoText) (.ref C_NoPlace) = some false)
    (s_NoText_NoText : PySem.W.subIn K (.ref C_NoText) (.ref C_NoText) = some true)
    (s_NoText_NoRow : PySem.W.subIn K (.ref C_NoText) (.ref C_NoRow) = some false)
    (s_NoText_TooMany : PySem.W.subIn K (.ref C_NoText) (.ref C_TooMany) = some false)
    (a_NoRow : PySem.W.nsIn K mainGlobals "NoRow" = some (some (.ref C_NoRow))) (i_NoRow : PySem.W.isClsIn K C_NoRow = true) (t_NoRow : PySem.W.typeIn K (.ref C_NoRow) = some (.type "type"))
    (g1_NoRow : PySem.W.findIn K (.ref C_NoRow) "__getattribute__" = some (some (.builtin "BaseException.__getattribute__"))) (g2_NoRow : PySem.W.findIn K (.ref C_NoRow) "__getattr__" = some none) (g3_NoRow : PySem.W.subIn K (.ref C_NoRow) (.type "BaseException") = some true) (g4_NoRow : PySem.W.hasDictIn K C_NoRow = true)
    (g5_NoRow : PySem.W.findIn K (.ref C_NoRow) "__class__" = some (some (.builtin "object.__class__"))) (g8_NoRow : PySem.W.mroIn K C_NoRow (.type "object") = some true) (v_NoRow : PySem.W.subIn K (.ref C_NoRow) (.type "ValueError") = some true) (u_NoRow : PySem.W.subIn K (.ref C_NoRow) (.ref C_S) = some true)
    (s_NoRow_NoBoard : PySem.W.subIn K (.ref C_NoRow) (.ref C_NoBoard) = some false)
    (s_NoRow_NoLine : PySem.W.subIn K (.ref C_NoRow) (.ref C_NoLine) = some false)
    (s_NoRow_NoSwitching : PySem.W.subIn K (.ref C_NoRow) (.ref C_NoSwitching) = some false)
    (s_NoRow_NoNumber : PySem.W.subIn K (.ref C_NoRow) (.ref C_NoNumber) = some false)
    (s_NoRow_Unlike : PySem.W.subIn K (.ref C_NoRow) (.ref C_Unlike) = some false)
    (s_NoRow_NoNet : PySem.W.subIn K (.ref C_NoRow) (.ref C_NoNet) = some false)
    (s_NoRow_NoPlace : PySem.W.subIn K (.ref C_NoRow) (.ref C_NoPlace) = some false)
    (s_NoRow_NoText : PySem.W.subIn K (.ref C_NoRow) (.ref C_NoText) = some false)
    (s_NoRow_NoRow : PySem.W.subIn K (.ref C_NoRow) (.ref C_NoRow) = some true)
    (s_NoRow_TooMany : PySem.W.subIn K (.ref C_NoRow) (.ref C_TooMany) = some false)
    (a_TooMany : PySem.W.nsIn K mainGlobals "TooMany" = some (some (.ref C_TooMany))) (i_TooMany : PySem.W.isClsIn K C_TooMany = true) (t_TooMany : PySem.W.typeIn K (.ref C_TooMany) = some (.type "type"))
    (g1_TooMany : PySem.W.findIn K (.ref C_TooMany) "__getattribute__" = some (some (.builtin "BaseException.__getattribute__"))) (g2_TooMany : PySem.W.findIn K (.ref C_TooMany) "__getattr__" = some none) (g3_TooMany : PySem.W.subIn K (.ref C_TooMany) (.type "BaseException") = some true) (g4_TooMany : PySem.W.hasDictIn K C_TooMany = true)
    (g5_TooMany : PySem.W.findIn K (.ref C_TooMany) "__class__" = some (some (.builtin "object.__class__"))) (g8_TooMany : PySem.W.mroIn K C_TooMany (.type "object") = some true) (v_TooMany : PySem.W.subIn K (.ref C_TooMany) (.type "ValueError") = some true) (u_TooMany : PySem.W.subIn K (.ref C_TooMany) (.ref C_S) = some true)
    (s_TooMany_NoBoard : PySem.W.subIn K (.ref C_TooMany) (.ref C_NoBoard) = some false)
    (s_TooMany_NoLine : PySem.W.subIn K (.ref C_TooMany) (.ref C_NoLine) = some false)
    (s_TooMany_NoSwitching : PySem.W.subIn K (.ref C_TooMany) (.ref C_NoSwitching) = some false)
    (s_TooMany_NoNumber : PySem.W.subIn K (.ref C_TooMany) (.ref C_NoNumber) = some false)
    (s_TooMany_Unlike : PySem.W.subIn K (.ref C_TooMany) (.ref C_Unlike) = some false)
    (s_TooMany_NoNet : PySem.W.subIn K (.ref C_TooMany) (.ref C_NoNet) = some false)
    (s_TooMany_NoPlace : PySem.W.subIn K (.ref C_TooMany) (.ref C_NoPlace) = some false)
    (s_TooMany_NoText : PySem.W.subIn K (.ref C_TooMany) (.ref C_NoText) = some false)
    (s_TooMany_NoRow : PySem.W.subIn K (.ref C_TooMany) (.ref C_NoRow) = some false)
    (s_TooMany_TooMany : PySem.W.subIn K (.ref C_TooMany) (.ref C_TooMany) = some true)
    (q_NoBoard : PySem.W.excIn K C_NoBoard bmVE "ValueError.__new__" = true) (w_NoBoard : PySem.W.keepIn K (.ref C_NoBoard) = true)
    (q_NoLine : PySem.W.excIn K C_NoLine bmVE "ValueError.__new__" = true) (w_NoLine : PySem.W.keepIn K (.ref C_NoLine) = true)
    (q_NoNet : PySem.W.excIn K C_NoNet bmVE "ValueError.__new__" = true) (w_NoNet : PySem.W.keepIn K (.ref C_NoNet) = true)
    (q_NoNumber : PySem.W.excIn K C_NoNumber bmVE "ValueError.__new__" = true) (w_NoNumber : PySem.W.keepIn K (.ref C_NoNumber) = true)
    (q_NoPlace : PySem.W.excIn K C_NoPlace bmVE "ValueError.__new__" = true) (w_NoPlace : PySem.W.keepIn K (.ref C_NoPlace) = true)
    (q_NoRow : PySem.W.excIn K C_NoRow bmVE "ValueError.__new__" = true) (w_NoRow : PySem.W.keepIn K (.ref C_NoRow) = true)
    (q_NoSwitching : PySem.W.excIn K C_NoSwitching bmVE "ValueError.__new__" = true) (w_NoSwitching : PySem.W.keepIn K (.ref C_NoSwitching) = true)
    (q_NoText : PySem.W.excIn K C_NoText bmVE "ValueError.__new__" = true) (w_NoText : PySem.W.keepIn K (.ref C_NoText) = true)
    (q_S : PySem.W.excIn K C_S bmVE "ValueError.__new__" = true) (w_S : PySem.W.keepIn K (.ref C_S) = true)
    (q_Unlike : PySem.W.excIn K C_Unlike bmVE "ValueError.__new__" = true) (w_Unlike : PySem.W.keepIn K (.ref C_Unlike) = true)
    (g1_S : PySem.W.findIn K (.ref C_S) "__getattribute__" = some (some (.builtin "BaseException.__getattribute__"))) (g2_S : PySem.W.findIn K (.ref C_S) "__getattr__" = some none) (g4_S : PySem.W.hasDictIn K C_S = true)
    (g5_S : PySem.W.findIn K (.ref C_S) "__class__" = some (some (.builtin "object.__class__"))) (g8_S : PySem.W.mroIn K C_S (.type "object") = some true) (v_S : PySem.W.subIn K (.ref C_S) (.type "ValueError") = some true) (s_S : PySem.W.subIn K (.ref C_S) (.ref C_S) = some true)
    (n_NoBoard : PySem.W.subIn K (.ref C_S) (.ref C_NoBoard) = some false)
    (n_NoLine : PySem.W.subIn K (.ref C_S) (.ref C_NoLine) = some false)
    (n_NoSwitching : PySem.W.subIn K (.ref C_S) (.ref C_NoSwitching) = some false)
    (n_NoNumber : PySem.W.subIn K (.ref C_S) (.ref C_NoNumber) = some false)
    (n_Unlike : PySem.W.subIn K (.ref C_S) (.ref C_Unlike) = some false)
    (n_NoNet : PySem.W.subIn K (.ref C_S) (.ref C_NoNet) = some false)
    (n_NoPlace : PySem.W.subIn K (.ref C_S) (.ref C_NoPlace) = some false)
    (n_NoText : PySem.W.subIn K (.ref C_S) (.ref C_NoText) = some false)
    (n_NoRow : PySem.W.subIn K (.ref C_S) (.ref C_NoRow) = some false)
    (n_TooMany : PySem.W.subIn K (.ref C_S) (.ref C_TooMany) = some false)
    (oI : oexB K C_TooMany = true) (saI : PySem.W.findIn K (.ref C_TooMany) "__setattr__" = some (some (.builtin "object.__setattr__"))) (kcI : PySem.W.keepIn K (.ref C_TooMany) = true)
    (m1I : PySem.W.findIn K (.ref C_TooMany) "many" = some none) (m2I : PySem.W.findIn K (.ref C_TooMany) "most" = some none)
    (iI : PySem.W.findIn K (.ref C_TooMany) "__init__" = some (some (.ref fI))) (tI : PySem.W.typeIn K (.ref fI) = some (.type "function"))
    (lI : K.lookup fI = some ⟨ocI, odI, .func (PySem.W.fnOf "__init__" "TooMany.__init__" (defArgs s_init) (defBody s_init) (defScope s_init) .none kVI dcI pmI anI cdI ctI), slI⟩) (cI : PySem.W.codeIn K cdI "TooMany.__init__" = true) (kI : PySem.W.keepIn K (.ref fI) = true)
    (s1I : PySem.W.specialIn K (.ref C_S) "__getattribute__" = some (some (.builtin "type.__getattribute__"))) (s3I : PySem.W.readsIn K C_S (.type "type") = true) (s4I : PySem.W.findCls K (.ref C_S) (.type "type") "__init__" = some (.val (.builtin "ValueError.__init__")))
    : Tx K mg := ⟨f0, _, fun_mk (st := s__law_cell) l0 c0 k0, PySem.W.mg_of X G a0, (fun_mk (st := s__law_cell) l0 c0 k0).binds (ps := ["_law_script", "_law_k"]) (fun _ _ _ _ _ _ us hl => match us, hl with | [_, _], _ => rfl),
    f1, _, fun_mk (st := s__law_mix) l1 c1 k1, PySem.W.mg_of X G a1, (fun_mk (st := s__law_mix) l1 c1 k1).binds (ps := ["_law_cell_here", "_law_k"]) (fun _ _ _ _ _ _ us hl => match us, hl with | [_, _], _ => rfl),
    f2, _, fun_mk (st := s__law_box) l2 c2 k2, PySem.W.mg_of X G a2, (fun_mk (st := s__law_box) l2 c2 k2).binds (ps := ["_law_script", "_law_k"]) (fun _ _ _ _ _ _ us hl => match us, hl with | [_, _], _ => rfl),
    f3, _, fun_mk (st := s__law_take) l3 c3 k3, PySem.W.mg_of X G a3, (fun_mk (st := s__law_take) l3 c3 k3).binds (ps := ["_law_box_here", "_law_many"]) (fun _ _ _ _ _ _ us hl => match us, hl with | [_, _], _ => rfl),
    f4, _, fun_mk (st := s__law_wide_box) l4 c4 k4, PySem.W.mg_of X G a4, (fun_mk (st := s__law_wide_box) l4 c4 k4).binds (ps := ["_law_box_here"]) (fun _ _ _ _ _ _ us hl => match us, hl with | [_], _ => rfl),
    f5, _, fun_mk (st := s__law_classes) l5 c5 k5, PySem.W.mg_of X G a5, (fun_mk (st := s__law_classes) l5 c5 k5).binds (ps := ["_law_e"]) (fun _ _ _ _ _ _ us hl => match us, hl with | [_], _ => rfl),
    f6, _, fun_mk (st := s_law) l6 c6 k6, PySem.W.mg_of X G a6, (fun_mk (st := s_law) l6 c6 k6).binds (ps := ["_law_script"]) (fun _ _ _ _ _ _ us hl => match us, hl with | [_], _ => rfl),
    PySem.W.mg_none_of X G z_ValueError,
    PySem.W.mg_none_of X G z_divmod,
    PySem.W.mg_none_of X G z_enumerate,
    PySem.W.mg_none_of X G z_isinstance,
    PySem.W.mg_none_of X G z_len,
    PySem.W.mg_none_of X G z_max,
    PySem.W.mg_none_of X G z_min,
    PySem.W.mg_none_of X G z_range,
    PySem.W.mg_none_of X G z_repr,
    C_S, errs_mk (PySem.W.mg_of X G aS) iS tS bS ⟨PySem.W.mg_of X G a_NoBoard, i_NoBoard, t_NoBoard, ⟨g1_NoBoard, g2_NoBoard, g3_NoBoard, g4_NoBoard, g5_NoBoard, pS, qS, g8_NoBoard⟩, v_NoBoard, u_NoBoard⟩ ⟨PySem.W.mg_of X G a_NoLine, i_NoLine, t_NoLine, ⟨g1_NoLine, g2_NoLine, g3_NoLine, g4_NoLine, g5_NoLine, pS, qS, g8_NoLine⟩, v_NoLine, u_NoLine⟩ ⟨PySem.W.mg_of X G a_NoSwitching, i_NoSwitching, t_NoSwitching, ⟨g1_NoSwitching, g2_NoSwitching, g3_NoSwitching, g4_NoSwitching, g5_NoSwitching, pS, qS, g8_NoSwitching⟩, v_NoSwitching, u_NoSwitching⟩ ⟨PySem.W.mg_of X G a_NoNumber, i_NoNumber, t_NoNumber, ⟨g1_NoNumber, g2_NoNumber, g3_NoNumber, g4_NoNumber, g5_NoNumber, pS, qS, g8_NoNumber⟩, v_NoNumber, u_NoNumber⟩ ⟨PySem.W.mg_of X G a_Unlike, i_Unlike, t_Unlike, ⟨g1_Unlike, g2_Unlike, g3_Unlike, g4_Unlike, g5_Unlike, pS, qS, g8_Unlike⟩, v_Unlike, u_Unlike⟩ ⟨PySem.W.mg_of X G a_NoNet, i_NoNet, t_NoNet, ⟨g1_NoNet, g2_NoNet, g3_NoNet, g4_NoNet, g5_NoNet, pS, qS, g8_NoNet⟩, v_NoNet, u_NoNet⟩ ⟨PySem.W.mg_of X G a_NoPlace, i_NoPlace, t_NoPlace, ⟨g1_NoPlace, g2_NoPlace, g3_NoPlace, g4_NoPlace, g5_NoPlace, pS, qS, g8_NoPlace⟩, v_NoPlace, u_NoPlace⟩ ⟨PySem.W.mg_of X G a_NoText, i_NoText, t_NoText, ⟨g1_NoText, g2_NoText, g3_NoText, g4_NoText, g5_NoText, pS, qS, g8_NoText⟩, v_NoText, u_NoText⟩ ⟨PySem.W.mg_of X G a_NoRow, i_NoRow, t_NoRow, ⟨g1_NoRow, g2_NoRow, g3_NoRow, g4_NoRow, g5_NoRow, pS, qS, g8_NoRow⟩, v_NoRow, u_NoRow⟩ ⟨PySem.W.mg_of X G a_TooMany, i_TooMany, t_TooMany, ⟨g1_TooMany, g2_TooMany, g3_TooMany, g4_TooMany, g5_TooMany, pS, qS, g8_TooMany⟩, v_TooMany, u_TooMany⟩ s_NoBoard_NoBoard s_NoBoard_NoLine s_NoBoard_NoSwitching s_NoBoard_NoNumber s_NoBoard_Unlike s_NoBoard_NoNet s_NoBoard_NoPlace s_NoBoard_NoText s_NoBoard_NoRow s_NoBoard_TooMany s_NoLine_NoBoard s_NoLine_NoLine s_NoLine_NoSwitching s_NoLine_NoNumber s_NoLine_Unlike s_NoLine_NoNet s_NoLine_NoPlace s_NoLine_NoText s_NoLine_NoRow s_NoLine_TooMany s_NoSwitching_NoBoard s_NoSwitching_NoLine s_NoSwitching_NoSwitching s_NoSwitching_NoNumber s_NoSwitching_Unlike s_NoSwitching_NoNet s_NoSwitching_NoPlace s_NoSwitching_NoText s_NoSwitching_NoRow s_NoSwitching_TooMany s_NoNumber_NoBoard s_NoNumber_NoLine s_NoNumber_NoSwitching s_NoNumber_NoNumber s_NoNumber_Unlike s_NoNumber_NoNet s_NoNumber_NoPlace s_NoNumber_NoText s_NoNumber_NoRow s_NoNumber_TooMany s_Unlike_NoBoard s_Unlike_NoLine s_Unlike_NoSwitching s_Unlike_NoNumber s_Unlike_Unlike s_Unlike_NoNet s_Unlike_NoPlace s_Unlike_NoText s_Unlike_NoRow s_Unlike_TooMany s_NoNet_NoBoard s_NoNet_NoLine s_NoNet_NoSwitching s_NoNet_NoNumber s_NoNet_Unlike s_NoNet_NoNet s_NoNet_NoPlace s_NoNet_NoText s_NoNet_NoRow s_NoNet_TooMany s_NoPlace_NoBoard s_NoPlace_NoLine s_NoPlace_NoSwitching s_NoPlace_NoNumber s_NoPlace_Unlike s_NoPlace_NoNet s_NoPlace_NoPlace s_NoPlace_NoText s_NoPlace_NoRow s_NoPlace_TooMany s_NoText_NoBoard s_NoText_NoLine s_NoText_NoSwitching s_NoText_NoNumber s_NoText_Unlike s_NoText_NoNet s_NoText_NoPlace s_NoText_NoText s_NoText_NoRow s_NoText_TooMany s_NoRow_NoBoard s_NoRow_NoLine s_NoRow_NoSwitching s_NoRow_NoNumber s_NoRow_Unlike s_NoRow_NoNet s_NoRow_NoPlace s_NoRow_NoText s_NoRow_NoRow s_NoRow_TooMany s_TooMany_NoBoard s_TooMany_NoLine s_TooMany_NoSwitching s_TooMany_NoNumber s_TooMany_Unlike s_TooMany_NoNet s_TooMany_NoPlace s_TooMany_NoText s_TooMany_NoRow s_TooMany_TooMany,
    C_NoBoard, ⟨PySem.W.mg_of X G a_NoBoard, i_NoBoard, t_NoBoard, ⟨g1_NoBoard, g2_NoBoard, g3_NoBoard, g4_NoBoard, g5_NoBoard, pS, qS, g8_NoBoard⟩, v_NoBoard, u_NoBoard⟩,
    C_NoLine, ⟨PySem.W.mg_of X G a_NoLine, i_NoLine, t_NoLine, ⟨g1_NoLine, g2_NoLine, g3_NoLine, g4_NoLine, g5_NoLine, pS, qS, g8_NoLine⟩, v_NoLine, u_NoLine⟩,
    C_NoSwitching, ⟨PySem.W.mg_of X G a_NoSwitching, i_NoSwitching, t_NoSwitching, ⟨g1_NoSwitching, g2_NoSwitching, g3_NoSwitching, g4_NoSwitching, g5_NoSwitching, pS, qS, g8_NoSwitching⟩, v_NoSwitching, u_NoSwitching⟩,
    C_NoNumber, ⟨PySem.W.mg_of X G a_NoNumber, i_NoNumber, t_NoNumber, ⟨g1_NoNumber, g2_NoNumber, g3_NoNumber, g4_NoNumber, g5_NoNumber, pS, qS, g8_NoNumber⟩, v_NoNumber, u_NoNumber⟩,
    C_Unlike, ⟨PySem.W.mg_of X G a_Unlike, i_Unlike, t_Unlike, ⟨g1_Unlike, g2_Unlike, g3_Unlike, g4_Unlike, g5_Unlike, pS, qS, g8_Unlike⟩, v_Unlike, u_Unlike⟩,
    C_NoNet, ⟨PySem.W.mg_of X G a_NoNet, i_NoNet, t_NoNet, ⟨g1_NoNet, g2_NoNet, g3_NoNet, g4_NoNet, g5_NoNet, pS, qS, g8_NoNet⟩, v_NoNet, u_NoNet⟩,
    C_NoPlace, ⟨PySem.W.mg_of X G a_NoPlace, i_NoPlace, t_NoPlace, ⟨g1_NoPlace, g2_NoPlace, g3_NoPlace, g4_NoPlace, g5_NoPlace, pS, qS, g8_NoPlace⟩, v_NoPlace, u_NoPlace⟩,
    C_NoText, ⟨PySem.W.mg_of X G a_NoText, i_NoText, t_NoText, ⟨g1_NoText, g2_NoText, g3_NoText, g4_NoText, g5_NoText, pS, qS, g8_NoText⟩, v_NoText, u_NoText⟩,
    C_NoRow, ⟨PySem.W.mg_of X G a_NoRow, i_NoRow, t_NoRow, ⟨g1_NoRow, g2_NoRow, g3_NoRow, g4_NoRow, g5_NoRow, pS, qS, g8_NoRow⟩, v_NoRow, u_NoRow⟩,
    C_TooMany, ⟨PySem.W.mg_of X G a_TooMany, i_TooMany, t_TooMany, ⟨g1_TooMany, g2_TooMany, g3_TooMany, g4_TooMany, g5_TooMany, pS, qS, g8_TooMany⟩, v_TooMany, u_TooMany⟩,
    ⟨q_NoBoard, PySem.W.mg_of X G a_NoBoard, w_NoBoard, g3_NoBoard, t_NoBoard⟩,
    ⟨q_NoLine, PySem.W.mg_of X G a_NoLine, w_NoLine, g3_NoLine, t_NoLine⟩,
    ⟨q_NoNet, PySem.W.mg_of X G a_NoNet, w_NoNet, g3_NoNet, t_NoNet⟩,
    ⟨q_NoNumber, PySem.W.mg_of X G a_NoNumber, w_NoNumber, g3_NoNumber, t_NoNumber⟩,
    ⟨q_NoPlace, PySem.W.mg_of X G a_NoPlace, w_NoPlace, g3_NoPlace, t_NoPlace⟩,
    ⟨q_NoRow, PySem.W.mg_of X G a_NoRow, w_NoRow, g3_NoRow, t_NoRow⟩,
    ⟨q_NoSwitching, PySem.W.mg_of X G a_NoSwitching, w_NoSwitching, g3_NoSwitching, t_NoSwitching⟩,
    ⟨q_NoText, PySem.W.mg_of X G a_NoText, w_NoText, g3_NoText, t_NoText⟩,
    ⟨q_S, PySem.W.mg_of X G aS, w_S, bS, tS⟩,
    ⟨q_Unlike, PySem.W.mg_of X G a_Unlike, w_Unlike, g3_Unlike, t_Unlike⟩,
    erv_mk (errs_mk (PySem.W.mg_of X G aS) iS tS bS ⟨PySem.W.mg_of X G a_NoBoard, i_NoBoard, t_NoBoard, ⟨g1_NoBoard, g2_NoBoard, g3_NoBoard, g4_NoBoard, g5_NoBoard, pS, qS, g8_NoBoard⟩, v_NoBoard, u_NoBoard⟩ ⟨PySem.W.mg_of X G a_NoLine, i_NoLine, t_NoLine, ⟨g1_NoLine, g2_NoLine, g3_NoLine, g4_NoLine, g5_NoLine, pS, qS, g8_NoLine⟩, v_NoLine, u_NoLine⟩ ⟨PySem.W.mg_of X G a_NoSwitching, i_NoSwitching, t_NoSwitching, ⟨g1_NoSwitching, g2_NoSwitching, g3_NoSwitching, g4_NoSwitching, g5_NoSwitching, pS, qS, g8_NoSwitching⟩, v_NoSwitching, u_NoSwitching⟩ ⟨PySem.W.mg_of X G a_NoNumber, i_NoNumber, t_NoNumber, ⟨g1_NoNumber, g2_NoNumber, g3_NoNumber, g4_NoNumber, g5_NoNumber, pS, qS, g8_NoNumber⟩, v_NoNumber, u_NoNumber⟩ ⟨PySem.W.mg_of X G a_Unlike, i_Unlike, t_Unlike, ⟨g1_Unlike, g2_Unlike, g3_Unlike, g4_Unlike, g5_Unlike, pS, qS, g8_Unlike⟩, v_Unlike, u_Unlike⟩ ⟨PySem.W.mg_of X G a_NoNet, i_NoNet, t_NoNet, ⟨g1_NoNet, g2_NoNet, g3_NoNet, g4_NoNet, g5_NoNet, pS, qS, g8_NoNet⟩, v_NoNet, u_NoNet⟩ ⟨PySem.W.mg_of X G a_NoPlace, i_NoPlace, t_NoPlace, ⟨g1_NoPlace, g2_NoPlace, g3_NoPlace, g4_NoPlace, g5_NoPlace, pS, qS, g8_NoPlace⟩, v_NoPlace, u_NoPlace⟩ ⟨PySem.W.mg_of X G a_NoText, i_NoText, t_NoText, ⟨g1_NoText, g2_NoText, g3_NoText, g4_NoText, g5_NoText, pS, qS, g8_NoText⟩, v_NoText, u_NoText⟩ ⟨PySem.W.mg_of X G a_NoRow, i_NoRow, t_NoRow, ⟨g1_NoRow, g2_NoRow, g3_NoRow, g4_NoRow, g5_NoRow, pS, qS, g8_NoRow⟩, v_NoRow, u_NoRow⟩ ⟨PySem.W.mg_of X G a_TooMany, i_TooMany, t_TooMany, ⟨g1_TooMany, g2_TooMany, g3_TooMany, g4_TooMany, g5_TooMany, pS, qS, g8_TooMany⟩, v_TooMany, u_TooMany⟩ s_NoBoard_NoBoard s_NoBoard_NoLine s_NoBoard_NoSwitching s_NoBoard_NoNumber s_NoBoard_Unlike s_NoBoard_NoNet s_NoBoard_NoPlace s_NoBoard_NoText s_NoBoard_NoRow s_NoBoard_TooMany s_NoLine_NoBoard s_NoLine_NoLine s_NoLine_NoSwitching s_NoLine_NoNumber s_NoLine_Unlike s_NoLine_NoNet s_NoLine_NoPlace s_NoLine_NoText s_NoLine_NoRow s_NoLine_TooMany s_NoSwitching_NoBoard s_NoSwitching_NoLine s_NoSwitching_NoSwitching s_NoSwitching_NoNumber s_NoSwitching_Unlike s_NoSwitching_NoNet s_NoSwitching_NoPlace s_NoSwitching_NoText s_NoSwitching_NoRow s_NoSwitching_TooMany s_NoNumber_NoBoard s_NoNumber_NoLine s_NoNumber_NoSwitching s_NoNumber_NoNumber s_NoNumber_Unlike s_NoNumber_NoNet s_NoNumber_NoPlace s_NoNumber_NoText s_NoNumber_NoRow s_NoNumber_TooMany s_Unlike_NoBoard s_Unlike_NoLine s_Unlike_NoSwitching s_Unlike_NoNumber s_Unlike_Unlike s_Unlike_NoNet s_Unlike_NoPlace s_Unlike_NoText s_Unlike_NoRow s_Unlike_TooMany s_NoNet_NoBoard s_NoNet_NoLine s_NoNet_NoSwitching s_NoNet_NoNumber s_NoNet_Unlike s_NoNet_NoNet s_NoNet_NoPlace s_NoNet_NoText s_NoNet_NoRow s_NoNet_TooMany s_NoPlace_NoBoard s_NoPlace_NoLine s_NoPlace_NoSwitching s_NoPlace_NoNumber s_NoPlace_Unlike s_NoPlace_NoNet s_NoPlace_NoPlace s_NoPlace_NoText s_NoPlace_NoRow s_NoPlace_TooMany s_NoText_NoBoard s_NoText_NoLine s_NoText_NoSwitching s_NoText_NoNumber s_NoText_Unlike s_NoText_NoNet s_NoText_NoPlace s_NoText_NoText s_NoText_NoRow s_NoText_TooMany s_NoRow_NoBoard s_NoRow_NoLine s_NoRow_NoSwitching s_NoRow_NoNumber s_NoRow_Unlike s_NoRow_NoNet s_NoRow_NoPlace s_NoRow_NoText s_NoRow_NoRow s_NoRow_TooMany s_TooMany_NoBoard s_TooMany_NoLine s_TooMany_NoSwitching s_TooMany_NoNumber s_TooMany_Unlike s_TooMany_NoNet s_TooMany_NoPlace s_TooMany_NoText s_TooMany_NoRow s_TooMany_TooMany) iS tS s_S v_S ⟨g1_S, g2_S, bS, g4_S, g5_S, pS, qS, g8_S⟩ (by intro x C hx hm; simp only [errNames, List.mem_cons, List.not_mem_nil, or_false] at hx; rcases hx with rfl | rfl | rfl | rfl | rfl | rfl | rfl | rfl | rfl | rfl; (rw [PySem.W.mg_of X G a_NoBoard] at hm; cases hm; exact ⟨s_NoBoard_NoBoard, u_NoBoard, i_NoBoard, t_NoBoard, n_NoBoard⟩); (rw [PySem.W.mg_of X G a_NoLine] at hm; cases hm; exact ⟨s_NoLine_NoLine, u_NoLine, i_NoLine, t_NoLine, n_NoLine⟩); (rw [PySem.W.mg_of X G a_NoSwitching] at hm; cases hm; exact ⟨s_NoSwitching_NoSwitching, u_NoSwitching, i_NoSwitching, t_NoSwitching, n_NoSwitching⟩); (rw [PySem.W.mg_of X G a_NoNumber] at hm; cases hm; exact ⟨s_NoNumber_NoNumber, u_NoNumber, i_NoNumber, t_NoNumber, n_NoNumber⟩); (rw [PySem.W.mg_of X G a_Unlike] at hm; cases hm; exact ⟨s_Unlike_Unlike, u_Unlike, i_Unlike, t_Unlike, n_Unlike⟩); (rw [PySem.W.mg_of X G a_NoNet] at hm; cases hm; exact ⟨s_NoNet_NoNet, u_NoNet, i_NoNet, t_NoNet, n_NoNet⟩); (rw [PySem.W.mg_of X G a_NoPlace] at hm; cases hm; exact ⟨s_NoPlace_NoPlace, u_NoPlace, i_NoPlace, t_NoPlace, n_NoPlace⟩); (rw [PySem.W.mg_of X G a_NoText] at hm; cases hm; exact ⟨s_NoText_NoText, u_NoText, i_NoText, t_NoText, n_NoText⟩); (rw [PySem.W.mg_of X G a_NoRow] at hm; cases hm; exact ⟨s_NoRow_NoRow, u_NoRow, i_NoRow, t_NoRow, n_NoRow⟩); (rw [PySem.W.mg_of X G a_TooMany] at hm; cases hm; exact ⟨s_TooMany_TooMany, u_TooMany, i_TooMany, t_TooMany, n_TooMany⟩)),
    ⟨oexB_ok oI saI g3_TooMany t_TooMany kcI, PySem.W.mg_of X G a_TooMany, m1I, m2I⟩, fI, _, iI, tI, fun_mk (st := s_init) lI cI kI, (fun_mk (st := s_init) lI cI kI).binds (ps := ["self", "many", "most"]) (fun _ _ _ _ _ _ us hl => match us, hl with | [_, _, _], _ => rfl), s1I, tS, s3I, s4I⟩
theorem law_at {w : World} {K : PySem.W.Frag} {mg : Str → Option Value} {fa : Addr} {h : Heap} (t : Tx K mg) (hfa : mg "law" = some (.ref fa)) :
    LawG PySem.Challenge.rw_lineswitch_k94_errors_made w K 3 63 "_law_script" mg fa h := by
  have e := hfa.symm.trans t.m_law
  cases e
  refine ⟨t.d_law, [], spF ⟨K, mg, [], none⟩ 1 F_law, fun _ h => (nomatch h), fun _ h => (nomatch h), fun _ h => (nomatch h), fun s u => ?_, fun H a ns hl hb _ hS => law_end (w := ⟨K, mg, [], none⟩) (law_true ns hl hb) hS (fun _ h => (nomatch h)), fun base _ _ _ => ok_law t⟩
  obtain ⟨oc, od, kV, doc, pm, an, cdv, ct, osl, e, _, _⟩ := t.F_law.ex
  rw [e]
  exact .of_eq rfl
end Ls
open PySem PySem.W PyProof.Rows
set_option maxHeartbeats 0 in
theorem PySem.Challenge.cw_lineswitch_k94_errors_made_holds : PySem.Challenge.rw_lineswitch_k94_errors_made.Holds := by
  w_on; o_law; k_head; (case hw => w_witness2)
  k_fill
  refine Ls.walk_G (l := PySem.Challenge.rw_lineswitch_k94_errors_made) (n := 63) (k := 3) (x := "_law_script") rfl (by decide) rfl ⟨rfl, by decide, by decide⟩ (by decide +kernel) (fun w h Y => PySem.W.kIn_of Y) ?F
  case F =>
    intro w mg fa h Y KX G hmg own
    refine' Ls.law_at (Ls.tx_mk KX G ?a0 ?l0 ?c0 ?k0 ?a1 ?l1 ?c1 ?k1 ?a2 ?l2 ?c2 ?k2 ?a3 ?l3 ?c3 ?k3 ?a4 ?l4 ?c4 ?k4 ?a5 ?l5 ?c5 ?k5 ?a6 ?l6 ?c6 ?k6 ?z_ValueError ?z_divmod ?z_enumerate ?z_isinstance ?z_len ?z_max ?z_min ?z_range ?z_repr ?aS ?iS ?tS ?bS ?pS ?qS ?a_NoBoard ?i_NoBoard ?t_NoBoard ?g1_NoBoard ?g2_NoBoard ?g3_NoBoard ?g4_NoBoard ?g5_NoBoard ?g8_NoBoard ?v_NoBoard ?u_NoBoard ?s_NoBoard_NoBoard ?s_NoBoard_NoLine ?s_NoBoard_NoSwitching ?s_NoBoard_NoNumber ?s_NoBoard_Unlike ?s_NoBoard_NoNet ?s_NoBoard_NoPlace ?s_NoBoard_NoText ?s_NoBoard_NoRow ?s_NoBoard_TooMany ?a_NoLine ?i_NoLine ?t_NoLine ?g1_NoLine ?g2_NoLine ?g3_NoLine ?g4_NoLine ?g5_NoLine ?g8_NoLine ?v_NoLine ?u_NoLine ?s_NoLine_NoBoard ?s_NoLine_NoLine ?s_NoLine_NoSwitching ?s_NoLine_NoNumber ?s_NoLine_Unlike ?s_NoLine_NoNet ?s_NoLine_NoPlace ?s_NoLine_NoText ?s_NoLine_NoRow ?s_NoLine_TooMany ?a_NoSwitching ?i_NoSwitching ?t_NoSwitching ?g1_NoSwitching ?g2_NoSwitching ?g3_NoSwitching ?g4_NoSwitching ?g5_NoSwitching ?g8_NoSwitching ?v_NoSwitching ?u_NoSwitching ?s_NoSwitching_NoBoard ?s_NoSwitching_NoLine ?s_NoSwitching_NoSwitching ?s_NoSwitching_NoNumber ?s_NoSwitching_Unlike ?s_NoSwitching_NoNet ?s_NoSwitching_NoPlace ?s_NoSwitching_NoText ?s_NoSwitching_NoRow ?s_NoSwitching_TooMany ?a_NoNumber ?i_NoNumber ?t_NoNumber ?g1_NoNumber ?g2_NoNumber ?g3_NoNumber ?g4_NoNumber ?g5_NoNumber ?g8_NoNumber ?v_NoNumber ?u_NoNumber ?s_NoNumber_NoBoard ?s_NoNumber_NoLine ?s_NoNumber_NoSwitching ?s_NoNumber_NoNumber ?s_NoNumber_Unlike ?s_NoNumber_NoNet ?s_NoNumber_NoPlace ?s_NoNumber_NoText ?s_NoNumber_NoRow ?s_NoNumber_TooMany ?a_Unlike ?i_Unlike ?t_Unlike ?g1_Unlike ?g2_Unlike ?g3_Unlike ?g4_Unlike ?g5_Unlike ?g8_Unlike ?v_Unlike ?u_Unlike ?s_Unlike_NoBoard ?s_Unlike_NoLine ?s_Unlike_NoSwitching ?s_Unlike_NoNumber ?s_Unlike_Unlike ?s_Unlike_NoNet ?s_Unlike_NoPlace ?s_Unlike_NoText ?s_Unlike_NoRow ?s_Unlike_TooMany ?a_NoNet ?i_NoNet ?t_NoNet ?g1_NoNet ?g2_NoNet ?g3_NoNet ?g4_NoNet ?g5_NoNet ?g8_NoNet ?v_NoNet ?u_NoNet ?s_NoNet_NoBoard ?s_NoNet_NoLine ?s_NoNet_NoSwitching ?s_NoNet_NoNumber ?s_NoNet_Unlike ?s_NoNet_NoNet ?s_NoNet_NoPlace ?s_NoNet_NoText ?s_NoNet_NoRow ?s_NoNet_TooMany ?a_NoPlace ?i_NoPlace ?t_NoPlace ?g1_NoPlace ?g2_NoPlace ?g3_NoPlace ?g4_NoPlace ?g5_NoPlace ?g8_NoPlace ?v_NoPlace ?u_NoPlace ?s_NoPlace_NoBoard ?s_NoPlace_NoLine ?s_NoPlace_NoSwitching ?s_NoPlace_NoNumber ?s_NoPlace_Unlike ?s_NoPlace_NoNet ?s_NoPlace_NoPlace ?s_NoPlace_NoText ?s_NoPlace_NoRow ?s_NoPlace_TooMany ?a_NoText ?i_NoText ?t_NoText ?g1_NoText ?g2_NoText ?g3_NoText ?g4_NoText ?g5_NoText ?g8_NoText ?v_NoText ?u_NoText ?s_NoText_NoBoard ?s_NoText_NoLine ?s_NoText_NoSwitching ?s_NoText_NoNumber ?s_NoText_Unlike ?s_NoText_NoNet ?s_NoText_NoPlace ?s_NoText_NoText ?s_NoText_NoRow ?s_NoText_TooMany ?a_NoRow ?i_NoRow ?t_NoRow ?g1_NoRow ?g2_NoRow ?g3_NoRow ?g4_NoRow ?g5_NoRow ?g8_NoRow ?v_NoRow ?u_NoRow ?s_NoRow_NoBoard ?s_NoRow_NoLine ?s_NoRow_NoSwitching ?s_NoRow_NoNumber ?s_NoRow_Unlike ?s_NoRow_NoNet ?s_NoRow_NoPlace ?s_NoRow_NoText ?s_NoRow_NoRow ?s_NoRow_TooMany ?a_TooMany ?i_TooMany ?t_TooMany ?g1_TooMany ?g2_TooMany ?g3_TooMany ?g4_TooMany ?g5_TooMany ?g8_TooMany ?v_TooMany ?u_TooMany ?s_TooMany_NoBoard ?s_TooMany_NoLine ?s_TooMany_NoSwitching ?s_TooMany_NoNumber ?s_TooMany_Unlike ?s_TooMany_NoNet ?s_TooMany_NoPlace ?s_TooMany_NoText ?s_TooMany_NoRow ?s_TooMany_TooMany ?q_NoBoard ?w_NoBoard ?q_NoLine ?w_NoLine ?q_NoNet ?w_NoNet ?q_NoNumber ?w_NoNumber ?q_NoPlace ?w_NoPlace ?q_NoRow ?w_NoRow ?q_NoSwitching ?w_NoSwitching ?q_NoText ?w_NoText ?q_S ?w_S ?q_Unlike ?w_Unlike ?g1_S ?g2_S ?g4_S ?g5_S ?g8_S ?v_S ?s_S ?n_NoBoard ?n_NoLine ?n_NoSwitching ?n_NoNumber ?n_Unlike ?n_NoNet ?n_NoPlace ?n_NoText ?n_NoRow ?n_TooMany ?oI ?saI ?kcI ?m1I ?m2I ?iI ?tI ?lI ?cI ?kI ?s1I ?s3I ?s4I) hmg
    (case a0 => k_is); (case a1 => k_is); (case a2 => k_is); (case a3 => k_is); (case a4 => k_is); (case a5 => k_is); (case a6 => k_is); (case aS => k_is); (case a_NoBoard => k_is); (case a_NoLine => k_is); (case a_NoSwitching => k_is); (case a_NoNumber => k_is); (case a_Unlike => k_is); (case a_NoNet => k_is); (case a_NoPlace => k_is); (case a_NoText => k_is); (case a_NoRow => k_is); (case a_TooMany => k_is); (case l0 => k_is); (case c0 => k_is); (case k0 => k_is); (case l1 => k_is); (case c1 => k_is); (case k1 => k_is); (case l2 => k_is); (case c2 => k_is); (case k2 => k_is); (case l3 => k_is); (case c3 => k_is); (case k3 => k_is); (case l4 => k_is); (case c4 => k_is); (case k4 => k_is); (case l5 => k_is); (case c5 => k_is); (case k5 => k_is); (case l6 => k_is); (case c6 => k_is); (case k6 => k_is); (case z_ValueError => k_is); (case z_divmod => k_is); (case z_enumerate => k_is); (case z_isinstance => k_is); (case z_len => k_is); (case z_max => k_is); (case z_min => k_is); (case z_range => k_is); (case z_repr => k_is); (case iS => k_is); (case tS => k_is); (case bS => k_is); (case pS => k_is); (case qS => k_is); (case i_NoBoard => k_is); (case t_NoBoard => k_is); (case g1_NoBoard => k_is); (case g2_NoBoard => k_is); (case g3_NoBoard => k_is); (case g4_NoBoard => k_is); (case g5_NoBoard => k_is); (case g8_NoBoard => k_is); (case v_NoBoard => k_is); (case u_NoBoard => k_is); (case s_NoBoard_NoBoard => k_is); (case s_NoBoard_NoLine => k_is); (case s_NoBoard_NoSwitching => k_is); (case s_NoBoard_NoNumber => k_is); (case s_NoBoard_Unlike => k_is); (case s_NoBoard_NoNet => k_is); (case s_NoBoard_NoPlace => k_is); (case s_NoBoard_NoText => k_is); (case s_NoBoard_NoRow => k_is); (case s_NoBoard_TooMany => k_is); (case i_NoLine => k_is); (case t_NoLine => k_is); (case g1_NoLine => k_is); (case g2_NoLine => k_is); (case g3_NoLine => k_is); (case g4_NoLine => k_is); (case g5_NoLine => k_is); (case g8_NoLine => k_is); (case v_NoLine => k_is); (case u_NoLine => k_is); (case s_NoLine_NoBoard => k_is); (case s_NoLine_NoLine => k_is); (case s_NoLine_NoSwitching => k_is); (case s_NoLine_NoNumber => k_is); (case s_NoLine_Unlike => k_is); (case s_NoLine_NoNet => k_is); (case s_NoLine_NoPlace => k_is); (case s_NoLine_NoText => k_is); (case s_NoLine_NoRow => k_is); (case s_NoLine_TooMany => k_is); (case i_NoSwitching => k_is); (case t_NoSwitching => k_is); (case g1_NoSwitching => k_is); (case g2_NoSwitching => k_is); (case g3_NoSwitching => k_is); (case g4_NoSwitching => k_is); (case g5_NoSwitching => k_is); (case g8_NoSwitching => k_is); (case v_NoSwitching => k_is); (case u_NoSwitching => k_is); (case s_NoSwitching_NoBoard => k_is); (case s_NoSwitching_NoLine => k_is); (case s_NoSwitching_NoSwitching => k_is); (case s_NoSwitching_NoNumber => k_is); (case s_NoSwitching_Unlike => k_is); (case s_NoSwitching_NoNet => k_is); (case s_NoSwitching_NoPlace => k_is); (case s_NoSwitching_NoText => k_is); (case s_NoSwitching_NoRow => k_is); (case s_NoSwitching_TooMany => k_is); (case i_NoNumber => k_is); (case t_NoNumber => k_is); (case g1_NoNumber => k_is); (case g2_NoNumber => k_is); (case g3_NoNumber => k_is); (case g4_NoNumber => k_is); (case g5_NoNumber => k_is); (case g8_NoNumber => k_is); (case v_NoNumber => k_is); (case u_NoNumber => k_is); (case s_NoNumber_NoBoard => k_is); (case s_NoNumber_NoLine => k_is); (case s_NoNumber_NoSwitching => k_is); (case s_NoNumber_NoNumber => k_is); (case s_NoNumber_Unlike => k_is); (case s_NoNumber_NoNet => k_is); (case s_NoNumber_NoPlace => k_is); (case s_NoNumber_NoText => k_is); (case s_NoNumber_NoRow => k_is); (case s_NoNumber_TooMany => k_is); (case i_Unlike => k_is); (case t_Unlike => k_is); (case g1_Unlike => k_is); (case g2_Unlike => k_is); (case g3_Unlike => k_is); (case g4_Unlike => k_is); (case g5_Unlike => k_is); (case g8_Unlike => k_is); (case v_Unlike => k_is); (case u_Unlike => k_is); (case s_Unlike_NoBoard => k_is); (case s_Unlike_NoLine => k_is); (case s_Unlike_NoSwitching => k_is); (case s_Unlike_NoNumber => k_is); (case s_Unlike_Unlike => k_is); (case s_Unlike_NoNet => k_is); (case s_Unlike_NoPlace => k_is); (case s_Unlike_NoText => k_is); (case s_Unlike_NoRow => k_is); (case s_Unlike_TooMany => k_is); (case i_NoNet => k_is); (case t_NoNet => k_is); (case g1_NoNet => k_is); (case g2_NoNet => k_is); (case g3_NoNet => k_is); (case g4_NoNet => k_is); (case g5_NoNet => k_is); (case g8_NoNet => k_is); (case v_NoNet => k_is); (case u_NoNet => k_is); (case s_NoNet_NoBoard => k_is); (case s_NoNet_NoLine => k_is); (case s_NoNet_NoSwitching => k_is); (case s_NoNet_NoNumber => k_is); (case s_NoNet_Unlike => k_is); (case s_NoNet_NoNet => k_is); (case s_NoNet_NoPlace => k_is); (case s_NoNet_NoText => k_is); (case s_NoNet_NoRow => k_is); (case s_NoNet_TooMany => k_is); (case i_NoPlace => k_is); (case t_NoPlace => k_is); (case g1_NoPlace => k_is); (case g2_NoPlace => k_is); (case g3_NoPlace => k_is); (case g4_NoPlace => k_is); (case g5_NoPlace => k_is); (case g8_NoPlace => k_is); (case v_NoPlace => k_is); (case u_NoPlace => k_is); (case s_NoPlace_NoBoard => k_is); (case s_NoPlace_NoLine => k_is); (case s_NoPlace_NoSwitching => k_is); (case s_NoPlace_NoNumber => k_is); (case s_NoPlace_Unlike => k_is); (case s_NoPlace_NoNet => k_is); (case s_NoPlace_NoPlace => k_is); (case s_NoPlace_NoText => k_is); (case s_NoPlace_NoRow => k_is); (case s_NoPlace_TooMany => k_is); (case i_NoText => k_is); (case t_NoText => k_is); (case g1_NoText => k_is); (case g2_NoText => k_is); (case g3_NoText => k_is); (case g4_NoText => k_is); (case g5_NoText => k_is); (case g8_NoText => k_is); (case v_NoText => k_is); (case u_NoText => k_is); (case s_NoText_NoBoard => k_is); (case s_NoText_NoLine => k_is); (case s_NoText_NoSwitching => k_is); (case s_NoText_NoNumber => k_is); (case s_NoText_Unlike => k_is); (case s_NoText_NoNet => k_is); (case s_NoText_NoPlace => k_is); (case s_NoText_NoText => k_is); (case s_NoText_NoRow => k_is); (case s_NoText_TooMany => k_is); (case i_NoRow => k_is); (case t_NoRow => k_is); (case g1_NoRow => k_is); (case g2_NoRow => k_is); (case g3_NoRow => k_is); (case g4_NoRow => k_is); (case g5_NoRow => k_is); (case g8_NoRow => k_is); (case v_NoRow => k_is); (case u_NoRow => k_is); (case s_NoRow_NoBoard => k_is); (case s_NoRow_NoLine => k_is); (case s_NoRow_NoSwitching => k_is); (case s_NoRow_NoNumber => k_is); (case s_NoRow_Unlike => k_is); (case s_NoRow_NoNet => k_is); (case s_NoRow_NoPlace => k_is); (case s_NoRow_NoText => k_is); (case s_NoRow_NoRow => k_is); (case s_NoRow_TooMany => k_is); (case i_TooMany => k_is); (case t_TooMany => k_is); (case g1_TooMany => k_is); (case g2_TooMany => k_is); (case g3_TooMany => k_is); (case g4_TooMany => k_is); (case g5_TooMany => k_is); (case g8_TooMany => k_is); (case v_TooMany => k_is); (case u_TooMany => k_is); (case s_TooMany_NoBoard => k_is); (case s_TooMany_NoLine => k_is); (case s_TooMany_NoSwitching => k_is); (case s_TooMany_NoNumber => k_is); (case s_TooMany_Unlike => k_is); (case s_TooMany_NoNet => k_is); (case s_TooMany_NoPlace => k_is); (case s_TooMany_NoText => k_is); (case s_TooMany_NoRow => k_is); (case s_TooMany_TooMany => k_is); (case q_NoBoard => k_exc); (case w_NoBoard => k_is); (case q_NoLine => k_exc); (case w_NoLine => k_is); (case q_NoNet => k_exc); (case w_NoNet => k_is); (case q_NoNumber => k_exc); (case w_NoNumber => k_is); (case q_NoPlace => k_exc); (case w_NoPlace => k_is); (case q_NoRow => k_exc); (case w_NoRow => k_is); (case q_NoSwitching => k_exc); (case w_NoSwitching => k_is); (case q_NoText => k_exc); (case w_NoText => k_is); (case q_S => k_exc); (case w_S => k_is); (case q_Unlike => k_exc); (case w_Unlike => k_is); (case g1_S => k_is); (case g2_S => k_is); (case g4_S => k_is); (case g5_S => k_is); (case g8_S => k_is); (case v_S => k_is); (case s_S => k_is); (case n_NoBoard => k_is); (case n_NoLine => k_is); (case n_NoSwitching => k_is); (case n_NoNumber => k_is); (case n_Unlike => k_is); (case n_NoNet => k_is); (case n_NoPlace => k_is); (case n_NoText => k_is); (case n_NoRow => k_is); (case n_TooMany => k_is); (case oI => kernel_rfl); (case saI => k_is); (case kcI => k_is); (case m1I => k_is); (case m2I => k_is); (case iI => k_is); (case tI => k_is); (case lI => k_is); (case cI => k_is); (case kI => k_is); (case s1I => k_is); (case s3I => k_is); (case s4I => k_is)

