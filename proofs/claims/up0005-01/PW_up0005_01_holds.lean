import PyProof.Rows.All
import Wide.All
import OpenK.AllK
import Wide.FinOn
import PySem.Challenge.RW_up0005_01
set_option Elab.async false
set_option maxRecDepth 100000
set_option maxHeartbeats 8000000
open PySem PySem.W PySem.Calls PyProof.Rows
namespace Mine
inductive Ex1 {α1 : Type} (p : α1 → Prop) : Prop
  | mk (x1 : α1) (h : p x1) : Ex1 p
inductive Ex2 {α1 α2 : Type} (p : α1 → α2 → Prop) : Prop
  | mk (x1 : α1) (x2 : α2) (h : p x1 x2) : Ex2 p
inductive Ex3 {α1 α2 α3 : Type} (p : α1 → α2 → α3 → Prop) : Prop
  | mk (x1 : α1) (x2 : α2) (x3 : α3) (h : p x1 x2 x3) : Ex3 p
inductive Ex4 {α1 α2 α3 α4 : Type} (p : α1 → α2 → α3 → α4 → Prop) : Prop
  | mk (x1 : α1) (x2 : α2) (x3 : α3) (x4 : α4) (h : p x1 x2 x3 x4) : Ex4 p
inductive Ex5 {α1 α2 α3 α4 α5 : Type} (p : α1 → α2 → α3 → α4 → α5 → Prop) : Prop
  | mk (x1 : α1) (x2 : α2) (x3 : α3) (x4 : α4) (x5 : α5) (h : p x1 x2 x3 x4 x5) : Ex5 p
inductive Ex6 {α1 α2 α3 α4 α5 α6 : Type} (p : α1 → α2 → α3 → α4 → α5 → α6 → Prop) : Prop
  | mk (x1 : α1) (x2 : α2) (x3 : α3) (x4 : α4) (x5 : α5) (x6 : α6) (h : p x1 x2 x3 x4 x5 x6) : Ex6 p
inductive Ex7 {α1 α2 α3 α4 α5 α6 α7 : Type} (p : α1 → α2 → α3 → α4 → α5 → α6 → α7 → Prop) : Prop
  | mk (x1 : α1) (x2 : α2) (x3 : α3) (x4 : α4) (x5 : α5) (x6 : α6) (x7 : α7) (h : p x1 x2 x3 x4 x5 x6 x7) : Ex7 p
inductive Ex8 {α1 α2 α3 α4 α5 α6 α7 α8 : Type} (p : α1 → α2 → α3 → α4 → α5 → α6 → α7 → α8 → Prop) : Prop
  | mk (x1 : α1) (x2 : α2) (x3 : α3) (x4 : α4) (x5 : α5) (x6 : α6) (x7 : α7) (x8 : α8) (h : p x1 x2 x3 x4 x5 x6 x7 x8) : Ex8 p
inductive Ex9 {α1 α2 α3 α4 α5 α6 α7 α8 α9 : Type} (p : α1 → α2 → α3 → α4 → α5 → α6 → α7 → α8 → α9 → Prop) : Prop
  | mk (x1 : α1) (x2 : α2) (x3 : α3) (x4 : α4) (x5 : α5) (x6 : α6) (x7 : α7) (x8 : α8) (x9 : α9) (h : p x1 x2 x3 x4 x5 x6 x7 x8 x9) : Ex9 p
inductive Ex11 {α1 α2 α3 α4 α5 α6 α7 α8 α9 α10 α11 : Type} (p : α1 → α2 → α3 → α4 → α5 → α6 → α7 → α8 → α9 → α10 → α11 → Prop) : Prop
  | mk (x1 : α1) (x2 : α2) (x3 : α3) (x4 : α4) (x5 : α5) (x6 : α6) (x7 : α7) (x8 : α8) (x9 : α9) (x10 : α10) (x11 : α11) (h : p x1 x2 x3 x4 x5 x6 x7 x8 x9 x10 x11) : Ex11 p
inductive Ex12 {α1 α2 α3 α4 α5 α6 α7 α8 α9 α10 α11 α12 : Type} (p : α1 → α2 → α3 → α4 → α5 → α6 → α7 → α8 → α9 → α10 → α11 → α12 → Prop) : Prop
  | mk (x1 : α1) (x2 : α2) (x3 : α3) (x4 : α4) (x5 : α5) (x6 : α6) (x7 : α7) (x8 : α8) (x9 : α9) (x10 : α10) (x11 : α11) (x12 : α12) (h : p x1 x2 x3 x4 x5 x6 x7 x8 x9 x10 x11 x12) : Ex12 p
inductive Ex14 {α1 α2 α3 α4 α5 α6 α7 α8 α9 α10 α11 α12 α13 α14 : Type} (p : α1 → α2 → α3 → α4 → α5 → α6 → α7 → α8 → α9 → α10 → α11 → α12 → α13 → α14 → Prop) : Prop
  | mk (x1 : α1) (x2 : α2) (x3 : α3) (x4 : α4) (x5 : α5) (x6 : α6) (x7 : α7) (x8 : α8) (x9 : α9) (x10 : α10) (x11 : α11) (x12 : α12) (x13 : α13) (x14 : α14) (h : p x1 x2 x3 x4 x5 x6 x7 x8 x9 x10 x11 x12 x13 x14) : Ex14 p
inductive Ex16 {α1 α2 α3 α4 α5 α6 α7 α8 α9 α10 α11 α12 α13 α14 α15 α16 : Type} (p : α1 → α2 → α3 → α4 → α5 → α6 → α7 → α8 → α9 → α10 → α11 → α12 → α13 → α14 → α15 → α16 → Prop) : Prop
  | mk (x1 : α1) (x2 : α2) (x3 : α3) (x4 : α4) (x5 : α5) (x6 : α6) (x7 : α7) (x8 : α8) (x9 : α9) (x10 : α10) (x11 : α11) (x12 : α12) (x13 : α13) (x14 : α14) (x15 : α15) (x16 : α16) (h : p x1 x2 x3 x4 x5 x6 x7 x8 x9 x10 x11 x12 x13 x14 x15 x16) : Ex16 p
inductive Ex17 {α1 α2 α3 α4 α5 α6 α7 α8 α9 α10 α11 α12 α13 α14 α15 α16 α17 : Type} (p : α1 → α2 → α3 → α4 → α5 → α6 → α7 → α8 → α9 → α10 → α11 → α12 → α13 → α14 → α15 → α16 → α17 → Prop) : Prop
  | mk (x1 : α1) (x2 : α2) (x3 : α3) (x4 : α4) (x5 : α5) (x6 : α6) (x7 : α7) (x8 : α8) (x9 : α9) (x10 : α10) (x11 : α11) (x12 : α12) (x13 : α13) (x14 : α14) (x15 : α15) (x16 : α16) (x17 : α17) (h : p x1 x2 x3 x4 x5 x6 x7 x8 x9 x10 x11 x12 x13 x14 x15 x16 x17) : Ex17 p
inductive An2 (p1 p2 : Prop) : Prop
  | mk (h1 : p1) (h2 : p2) : An2 p1 p2
inductive An3 (p1 p2 p3 : Prop) : Prop
  | mk (h1 : p1) (h2 : p2) (h3 : p3) : An3 p1 p2 p3
inductive An4 (p1 p2 p3 p4 : Prop) : Prop
  | mk (h1 : p1) (h2 : p2) (h3 : p3) (h4 : p4) : An4 p1 p2 p3 p4
inductive An5 (p1 p2 p3 p4 p5 : Prop) : Prop
  | mk (h1 : p1) (h2 : p2) (h3 : p3) (h4 : p4) (h5 : p5) : An5 p1 p2 p3 p4 p5
inductive An6 (p1 p2 p3 p4 p5 p6 : Prop) : Prop
  | mk (h1 : p1) (h2 : p2) (h3 : p3) (h4 : p4) (h5 : p5) (h6 : p6) : An6 p1 p2 p3 p4 p5 p6
inductive An7 (p1 p2 p3 p4 p5 p6 p7 : Prop) : Prop
  | mk (h1 : p1) (h2 : p2) (h3 : p3) (h4 : p4) (h5 : p5) (h6 : p6) (h7 : p7) : An7 p1 p2 p3 p4 p5 p6 p7
inductive An8 (p1 p2 p3 p4 p5 p6 p7 p8 : Prop) : Prop
  | mk (h1 : p1) (h2 : p2) (h3 : p3) (h4 : p4) (h5 : p5) (h6 : p6) (h7 : p7) (h8 : p8) : An8 p1 p2 p3 p4 p5 p6 p7 p8
inductive An9 (p1 p2 p3 p4 p5 p6 p7 p8 p9 : Prop) : Prop
  | mk (h1 : p1) (h2 : p2) (h3 : p3) (h4 : p4) (h5 : p5) (h6 : p6) (h7 : p7) (h8 : p8) (h9 : p9) : An9 p1 p2 p3 p4 p5 p6 p7 p8 p9
inductive An11 (p1 p2 p3 p4 p5 p6 p7 p8 p9 p10 p11 : Prop) : Prop
  | mk (h1 : p1) (h2 : p2) (h3 : p3) (h4 : p4) (h5 : p5) (h6 : p6) (h7 : p7) (h8 : p8) (h9 : p9) (h10 : p10) (h11 : p11) : An11 p1 p2 p3 p4 p5 p6 p7 p8 p9 p10 p11
inductive An13 (p1 p2 p3 p4 p5 p6 p7 p8 p9 p10 p11 p12 p13 : Prop) : Prop
  | mk (h1 : p1) (h2 : p2) (h3 : p3) (h4 : p4) (h5 : p5) (h6 : p6) (h7 : p7) (h8 : p8) (h9 : p9) (h10 : p10) (h11 : p11) (h12 : p12) (h13 : p13) : An13 p1 p2 p3 p4 p5 p6 p7 p8 p9 p10 p11 p12 p13
inductive An14 (p1 p2 p3 p4 p5 p6 p7 p8 p9 p10 p11 p12 p13 p14 : Prop) : Prop
  | mk (h1 : p1) (h2 : p2) (h3 : p3) (h4 : p4) (h5 : p5) (h6 : p6) (h7 : p7) (h8 : p8) (h9 : p9) (h10 : p10) (h11 : p11) (h12 : p12) (h13 : p13) (h14 : p14) : An14 p1 p2 p3 p4 p5 p6 p7 p8 p9 p10 p11 p12 p13 p14
end Mine
namespace Mine

/-! what stands below every frame of the law's call -/
structure Base (K : Frag) (G : Heap) (mg mb : Str → Option Value) : Prop where
  X : K.In G
  g : G.Ns mainGlobals mg
  b : G.Ns builtinsNs mb
  lim : G.NoLimit
  bt : ∀ x : Str, x ≠ "__name__" → mb x = bootBuiltins x

/-! locals, by a fixed list of names -/
noncomputable def lkV : List Str → List (Option Value) → Str → Option Value
  | n :: ns, v :: vs, x => if x = n then v else lkV ns vs x
  | _, _, _ => none
inductive At : List Str → List (Option Value) → Str → Value → Prop
  | here {x ns v vs} : At (x :: ns) (some v :: vs) x v
  | there {x n ns o v vs} : At ns vs x v → At (n :: ns) (o :: vs) x v
inductive SetAt : List Str → List (Option Value) → Str → Value → List (Option Value) → Prop
  | here {x ns o v vs} : SetAt (x :: ns) (o :: vs) x v (some v :: vs)
  | there {x n ns o v vs vs'} : SetAt ns vs x v vs' → SetAt (n :: ns) (o :: vs) x v (o :: vs')
theorem At.mem {ns vs x v} (h : At ns vs x v) : x ∈ ns := by
  induction h with
  | here => exact .head _
  | there _ ih => exact .tail _ ih
theorem At.lk {ns vs x v} (h : At ns vs x v) (nd : ns.Nodup) : lkV ns vs x = some v := by
  induction h with
  | here => simp [lkV]
  | @there x n ns o v vs h ih =>
    have hn := List.nodup_cons.mp nd
    have : x ≠ n := fun e => hn.1 (e ▸ h.mem)
    simp only [lkV, if_neg this]; exact ih hn.2
theorem SetAt.mem {ns vs x v vs'} (h : SetAt ns vs x v vs') : x ∈ ns := by
  induction h with
  | here => exact .head _
  | there _ ih => exact .tail _ ih
theorem SetAt.lk {ns vs x v vs'} (h : SetAt ns vs x v vs') (nd : ns.Nodup) : (fun y => if y = x then some v else lkV ns vs y) = lkV ns vs' := by
  funext y
  induction h with
  | here => simp only [lkV]; split <;> rfl
  | @there x n ns o v vs vs' h ih =>
    have hn := List.nodup_cons.mp nd
    have : x ≠ n := fun e => hn.1 (e ▸ h.mem)
    simp only [lkV]
    by_cases hy : y = n
    · subst hy; simp [Ne.symm this]
    · simp only [if_neg hy]; exact ih hn.2

structure Scp (cs : Scope) (nm gl : List Str) : Prop where
  fn : cs.kind = .function
  loc : ∀ x ∈ nm, cs.names.lookup x = some .local
  glo : ∀ x ∈ gl, cs.names.lookup x = some .globalImplicit
  nodb : ∀ x ∈ nm ++ gl, (x == ("__debug__" : Str)) = false
  nd : nm.Nodup
noncomputable def nodupB : List (Array Nat) → Bool
  | [] => true
  | x :: r => !r.contains x && nodupB r
theorem nodupB_of : ∀ {l : List Str}, nodupB (l.map (·.cps)) = true → l.Nodup
  | [], _ => List.nodup_nil
  | x :: r, h => by
    simp only [List.map_cons, nodupB, Bool.and_eq_true, Bool.not_eq_true', List.contains_eq_mem] at h
    refine List.nodup_cons.mpr ⟨fun hx => ?_, nodupB_of h.2⟩
    have : x.cps ∈ r.map (·.cps) := List.mem_map_of_mem hx
    simp [this] at h
noncomputable def scpB (cs : Scope) (nm gl : List Str) : Bool :=
  (cs.kind == .function) && nm.all (fun x => cs.names.lookup x == some .local) && gl.all (fun x => cs.names.lookup x == some .globalImplicit) && (nm ++ gl).all (fun x => !(x == ("__debug__" : Str))) && nodupB (nm.map (·.cps))
theorem Scp.of {cs : Scope} {nm gl : List Str} (h : scpB cs nm gl = true) : Scp cs nm gl := by
  simp only [scpB, Bool.and_eq_true, List.all_eq_true, beq_iff_eq, Bool.not_eq_true'] at h
  exact ⟨h.1.1.1.1, fun x hx => h.1.1.1.2 x hx, fun x hx => h.1.1.2 x hx, fun x hx => h.1.2 x hx, nodupB_of h.2⟩

/-! the call's entry, and what is known of the state within it -/
structure Ent where
  G : Heap
  H : Heap
  W : List Addr
  g₀ : Heap

structure Mem (e : Ent) (g h : Heap) (news : List (Addr × Obj)) : Prop where
  keep : ∀ b o, g.get? b = some o → h.get? b = some o
  hold : ∀ p ∈ news, h.get? p.1 = some p.2 ∧ g.get? p.1 = none
  nd : (news.map (·.1)).Nodup
  base : ∀ b o, e.g₀.get? b = some o → g.get? b = some o
  kept : ∀ b o, e.H.get? b = some o → b ∉ e.W → h.get? b = some o
  fresh : ∀ b o, g.get? b = some o → e.g₀.get? b = some o ∨ e.H.get? b = none
  own : ∀ p ∈ news, p.1 ∈ e.W ∨ e.H.get? p.1 = none
  alive : ∀ b ∈ e.W, h.get? b ≠ none
  G0 : ∀ b o, e.G.get? b = some o → e.g₀.get? b = some o

structure St (e : Ent) (nm : List Str) (L : Addr) (g h : Heap) (vals : List (Option Value)) (news : List (Addr × Obj)) : Prop where
  mem : Mem e g h news
  ns : h.Ns L (lkV nm vals)
  off : g.get? L = none
  Ln : ∀ p ∈ news, p.1 ≠ L
  Gs : e.G.objs.size ≤ L
  Lf : e.H.get? L = none
  LW : L ∉ e.W

section
variable {e : Ent} {nm : List Str} {L : Addr} {g h : Heap} {vals : List (Option Value)} {news : List (Addr × Obj)}
theorem St.nofree (S : St e nm L g h vals news) {r : Addr} (hr : h.get? r = none) : g.get? r = none ∧ e.H.get? r = none ∧ r ≠ L ∧ r ∉ e.W ∧ ∀ p ∈ news, p.1 ≠ r := by
  have hL : r ≠ L := by
    rintro rfl
    obtain ⟨o, _, _, ho, _⟩ := S.ns
    rw [hr] at ho; cases ho
  have hW : r ∉ e.W := fun hw => S.mem.alive r hw hr
  refine ⟨?_, ?_, hL, hW, fun p hp e1 => ?_⟩
  · cases q : g.get? r with
    | none => rfl
    | some o => rw [S.mem.keep _ _ q] at hr; cases hr
  · cases q : e.H.get? r with
    | none => rfl
    | some o => rw [S.mem.kept _ _ q hW] at hr; cases hr
  · have := (S.mem.hold p hp).1
    rw [e1, hr] at this; cases this
theorem St.Gkeep (S : St e nm L g h vals news) : ∀ b o, e.G.get? b = some o → h.get? b = some o := fun b o q => S.mem.keep b o (S.mem.base b o (S.mem.G0 b o q))
theorem St.GL (S : St e nm L g h vals news) : e.G.get? L = none := by
  cases q : e.G.get? L with
  | none => rfl
  | some o => exact absurd (Heap.lt_size q) (Nat.not_lt.mpr S.Gs)
theorem St.fr (S : St e nm L g h vals news) : Fr e.G L h (lkV nm vals) := ⟨S.ns, S.Gkeep, S.Gs⟩
theorem St.Gnone (S : St e nm L g h vals news) {b : Addr} (hb : g.get? b = none) : e.G.get? b = none := by
  cases q : e.G.get? b with
  | none => rfl
  | some o => rw [S.mem.base _ _ (S.mem.G0 _ _ q)] at hb; cases hb
theorem St.nw (S : St e nm L g h vals news) : News e.G L h news := fun p hp => ⟨(S.mem.hold p hp).1, S.Ln p hp, S.Gnone (S.mem.hold p hp).2⟩

/-- a name is stored -/
theorem St.store (S : St e nm L g h vals news) {h' : Heap} {vals' : List (Option Value)} (hn : h'.Ns L (lkV nm vals')) (hs : Heap.SameBut L h h') : St e nm L g h' vals' news := by
  have hk : ∀ b o, b ≠ L → h.get? b = some o → h'.get? b = some o := fun b o hb q => (hs.2 b hb).trans q
  refine ⟨⟨fun b o q => hk b o (fun hb => ?_) (S.mem.keep b o q), fun p hp => ⟨hk _ _ (S.Ln p hp) (S.mem.hold p hp).1, (S.mem.hold p hp).2⟩, S.mem.nd, S.mem.base, fun b o q hw => hk b o (fun hb => ?_) (S.mem.kept b o q hw), S.mem.fresh, S.mem.own, fun b hb => ?_, S.mem.G0⟩, hn, S.off, S.Ln, S.Gs, S.Lf, S.LW⟩
  · rw [hb, S.off] at q; cases q
  · rw [hb, S.Lf] at q; cases q
  · have hbl : b ≠ L := fun q => S.LW (q ▸ hb)
    rw [hs.2 b hbl]; exact S.mem.alive b hb

/-- the heap has grown by objects that are kept -/
theorem St.grow (S : St e nm L g h vals news) {h' : Heap} (hk : ∀ b o, h.get? b = some o → h'.get? b = some o) : St e nm L g h' vals news :=
  ⟨⟨fun b o q => hk b o (S.mem.keep b o q), fun p hp => ⟨hk _ _ (S.mem.hold p hp).1, (S.mem.hold p hp).2⟩, S.mem.nd, S.mem.base, fun b o q hw => hk b o (S.mem.kept b o q hw), S.mem.fresh, S.mem.own,
    fun b hb q => (by
      cases q' : h.get? b with
      | none => exact S.mem.alive b hb q'
      | some o => rw [hk _ _ q'] at q; exact nomatch q), S.mem.G0⟩, S.ns.keeps hk, S.off, S.Ln, S.Gs, S.Lf, S.LW⟩

/-- a fresh object that may change -/
theorem St.new (S : St e nm L g h vals news) {h' : Heap} {r : Addr} {o : Obj} (hr : h.get? r = none) (hk : ∀ b o, h.get? b = some o → h'.get? b = some o) (ho : h'.get? r = some o) : St e nm L g h' vals ((r, o) :: news) := by
  have S' := S.grow hk
  obtain ⟨f1, f2, f3, f4, f5⟩ := S.nofree hr
  exact ⟨⟨S'.mem.keep, fun p hp => by
      rcases List.mem_cons.mp hp with rfl | hp
      · exact ⟨ho, f1⟩
      · exact S'.mem.hold p hp, List.nodup_cons.mpr ⟨fun q => by obtain ⟨p, hp, e⟩ := List.mem_map.mp q; exact f5 p hp e, S.mem.nd⟩, S.mem.base, S'.mem.kept, S.mem.fresh, fun p hp => by
      rcases List.mem_cons.mp hp with rfl | hp
      · exact .inr f2
      · exact S.mem.own p hp, S'.mem.alive, S.mem.G0⟩, S'.ns, S.off, fun p hp => by
      rcases List.mem_cons.mp hp with rfl | hp
      · exact f3
      · exact S.Ln p hp, S.Gs, S.Lf, S.LW⟩

theorem get_none_size (h : Heap) : h.get? h.objs.size = none := by
  cases q : h.get? h.objs.size with
  | none => rfl
  | some o => exact absurd (Heap.lt_size q) (Nat.lt_irrefl _)
theorem St.push (S : St e nm L g h vals news) (o : Obj) (hf : o.isFreed = false) : St e nm L g (h.push o) vals ((h.objs.size, o) :: news) :=
  S.new (get_none_size h) (fun _ _ q => Heap.get?_push_of_some _ q) (Heap.get?_push_size _ hf)

/-- entries may be left out of sight, or stand in another order -/
theorem St.sub (S : St e nm L g h vals news) {news' : List (Addr × Obj)} (hs : ∀ p ∈ news', p ∈ news) (nd : (news'.map (·.1)).Nodup) : St e nm L g h vals news' :=
  ⟨⟨S.mem.keep, fun p hp => S.mem.hold p (hs p hp), nd, S.mem.base, S.mem.kept, S.mem.fresh, fun p hp => S.mem.own p (hs p hp), S.mem.alive, S.mem.G0⟩, S.ns, S.off, fun p hp => S.Ln p (hs p hp), S.Gs, S.Lf, S.LW⟩
theorem St.perm (S : St e nm L g h vals news) {news' : List (Addr × Obj)} (hp : news.Perm news') : St e nm L g h vals news' :=
  S.sub (fun _ q => hp.mem_iff.mpr q) ((hp.map _).nodup_iff.mp S.mem.nd)
theorem St.sublist (S : St e nm L g h vals news) {news' : List (Addr × Obj)} (hp : news'.Sublist news) : St e nm L g h vals news' :=
  S.sub (fun _ q => hp.subset q) ((hp.map _).nodup S.mem.nd)
end

/-! the base grows: an object that no longer changes is laid into it -/
noncomputable def lay (g : Heap) (h : Heap) (keepOut : List Addr) : Heap := ⟨(Array.range h.objs.size).map fun b => if keepOut.contains b then { cls := .none, data := .freed } else (h.get? b).getD { cls := .none, data := .freed }, g.life⟩
theorem lay_get {g h : Heap} {ko : List Addr} {b : Addr} {o : Obj} : (lay g h ko).get? b = some o ↔ b ∉ ko ∧ h.get? b = some o := by
  rw [Heap.get?_some_iff]
  unfold lay
  simp only [Array.getElem?_map]
  constructor
  · rintro ⟨h1, h2⟩
    by_cases hb : b < h.objs.size
    · rw [Array.getElem?_eq_getElem (by simpa using hb)] at h1
      simp only [Array.getElem_range, Option.map_some, Option.some.injEq, List.contains_eq_mem, decide_eq_true_eq] at h1
      by_cases hk : b ∈ ko
      · rw [if_pos hk] at h1; subst h1; cases h2
      · rw [if_neg hk] at h1
        refine ⟨hk, ?_⟩
        cases q : h.get? b with
        | none => rw [q] at h1; simp only [Option.getD_none] at h1; subst h1; cases h2
        | some o' => rw [q] at h1; simp only [Option.getD_some] at h1; rw [h1]
    · rw [Array.getElem?_eq_none (by simpa using hb)] at h1; cases h1
  · rintro ⟨hk, ho⟩
    have hb := Heap.lt_size ho
    refine ⟨?_, (Heap.get?_some_iff.mp ho).2⟩
    rw [Array.getElem?_eq_getElem (by simpa using hb)]
    simp only [Array.getElem_range, Option.map_some, Option.some.injEq, List.contains_eq_mem, decide_eq_true_eq]
    rw [if_neg hk, ho]; rfl

/-- g with the one object r added -/
noncomputable def add1 (g : Heap) (r : Addr) (o : Obj) : Heap := ⟨((Array.range (max g.objs.size (r + 1))).map fun b => if b = r then o else (g.get? b).getD { cls := .none, data := .freed }), g.life⟩
theorem add1_get {g : Heap} {r b : Addr} {o o' : Obj} (ho : o.isFreed = false) : (add1 g r o).get? b = some o' ↔ (b = r ∧ o' = o) ∨ (b ≠ r ∧ g.get? b = some o') := by
  rw [Heap.get?_some_iff]
  unfold add1
  simp only [Array.getElem?_map]
  constructor
  · rintro ⟨h1, h2⟩
    by_cases hb : b < max g.objs.size (r + 1)
    · rw [Array.getElem?_eq_getElem (by simpa using hb)] at h1
      simp only [Array.getElem_range, Option.map_some, Option.some.injEq] at h1
      by_cases hk : b = r
      · rw [if_pos hk] at h1; exact .inl ⟨hk, h1.symm⟩
      · rw [if_neg hk] at h1
        refine .inr ⟨hk, ?_⟩
        cases q : g.get? b with
        | none => rw [q] at h1; simp only [Option.getD_none] at h1; subst h1; cases h2
        | some o' => rw [q] at h1; simp only [Option.getD_some] at h1; rw [h1]
    · rw [Array.getElem?_eq_none (by simpa using hb)] at h1; cases h1
  · rintro (⟨rfl, rfl⟩ | ⟨hk, hg⟩)
    · refine ⟨?_, ho⟩
      rw [Array.getElem?_eq_getElem (by rw [Array.size_range]; exact Nat.lt_of_lt_of_le (Nat.lt_succ_self _) (Nat.le_max_right _ _))]
      simp
    · have hb := Heap.lt_size hg
      refine ⟨?_, (Heap.get?_some_iff.mp hg).2⟩
      rw [Array.getElem?_eq_getElem (by rw [Array.size_range]; exact Nat.lt_of_lt_of_le hb (Nat.le_max_left _ _))]
      simp only [Array.getElem_range, Option.map_some, Option.some.injEq]
      rw [if_neg hk, hg]; rfl

/-- one base lies in another -/
noncomputable def Le (g g' : Heap) : Prop := ∀ b o, g.get? b = some o → g'.get? b = some o
theorem Le.rfl {g : Heap} : Le g g := fun _ _ q => q
theorem Le.trans {a b c : Heap} (x : Le a b) (y : Le b c) : Le a c := fun p o q => y p o (x p o q)

section
variable {e : Ent} {nm : List Str} {L : Addr} {g h : Heap} {vals : List (Option Value)} {news : List (Addr × Obj)}
/-- the first entry is laid into the base -/
theorem St.freeze {r : Addr} {o : Obj} (S : St e nm L g h vals ((r, o) :: news)) (hr : e.H.get? r = none) : ∃ g', Le g g' ∧ g'.get? r = some o ∧ St e nm L g' h vals news := by
  have hro := S.mem.hold (r, o) (.head _)
  have hof := (Heap.get?_some_iff.mp hro.1).2
  have hle : Le g (add1 g r o) := fun b o' q => (add1_get hof).mpr (.inr ⟨fun hb => (by rw [hb, hro.2] at q; cases q), q⟩)
  have hnd := List.nodup_cons.mp S.mem.nd
  refine ⟨add1 g r o, hle, (add1_get hof).mpr (.inl ⟨rfl, rfl⟩), ⟨fun b o' q => ?_, fun p hp => ⟨(S.mem.hold p (.tail _ hp)).1, ?_⟩, hnd.2, fun b o' q => hle _ _ (S.mem.base b o' q), S.mem.kept, fun b o' q => ?_, fun p hp => S.mem.own p (.tail _ hp), S.mem.alive, S.mem.G0⟩, S.ns, ?_, fun p hp => S.Ln p (.tail _ hp), S.Gs, S.Lf, S.LW⟩
  · rcases (add1_get hof).mp q with ⟨rfl, rfl⟩ | ⟨_, q⟩
    · exact hro.1
    · exact S.mem.keep _ _ q
  · cases q : (add1 g r o).get? p.1 with
    | none => rfl
    | some o' =>
      rcases (add1_get hof).mp q with ⟨q1, _⟩ | ⟨_, q⟩
      · exact absurd (List.mem_map_of_mem (f := (·.1)) hp) (q1 ▸ hnd.1)
      · rw [(S.mem.hold p (.tail _ hp)).2] at q; cases q
  · rcases (add1_get hof).mp q with ⟨rfl, _⟩ | ⟨_, q⟩
    · exact .inr hr
    · exact S.mem.fresh _ _ q
  · cases q : (add1 g r o).get? L with
    | none => rfl
    | some o' =>
      rcases (add1_get hof).mp q with ⟨q1, _⟩ | ⟨_, q⟩
      · exact absurd q1.symm (S.Ln _ (.head _))
      · rw [S.off] at q; cases q

/-- a fresh object that does not change -/
theorem St.newI (S : St e nm L g h vals news) {h' : Heap} {r : Addr} {o : Obj} (hr : h.get? r = none) (hk : ∀ b o, h.get? b = some o → h'.get? b = some o) (ho : h'.get? r = some o) : ∃ g', Le g g' ∧ g'.get? r = some o ∧ St e nm L g' h' vals news :=
  (S.new hr hk ho).freeze (S.nofree hr).2.1
theorem St.pushI (S : St e nm L g h vals news) (o : Obj) (hf : o.isFreed = false) : ∃ g', Le g g' ∧ g'.get? h.objs.size = some o ∧ St e nm L g' (h.push o) vals news :=
  S.newI (get_none_size h) (fun _ _ q => Heap.get?_push_of_some _ q) (Heap.get?_push_size _ hf)
end

/-- one entry has turned -/
inductive Upd1 (d : Addr) (o o' : Obj) : List (Addr × Obj) → List (Addr × Obj) → Prop
  | here {r} : Upd1 d o o' ((d, o) :: r) ((d, o') :: r)
  | there {p r r'} : Upd1 d o o' r r' → Upd1 d o o' (p :: r) (p :: r')
theorem Upd1.fst {d o o' l l'} (u : Upd1 d o o' l l') : l'.map (·.1) = l.map (·.1) := by
  induction u with
  | here => rfl
  | there _ ih => simp [ih]
theorem Upd1.mem {d o o' l l'} (u : Upd1 d o o' l l') : (d, o) ∈ l := by
  induction u with
  | here => exact .head _
  | there _ ih => exact .tail _ ih
theorem Upd1.of {d o o' l l'} (u : Upd1 d o o' l l') (nd : (l.map (·.1)).Nodup) : ∀ p ∈ l', p = (d, o') ∨ (p ∈ l ∧ p.1 ≠ d) := by
  induction u with
  | @here r =>
    intro p hp
    rcases List.mem_cons.mp hp with rfl | hp
    · exact .inl rfl
    · exact .inr ⟨.tail _ hp, fun q => (List.nodup_cons.mp nd).1 (by have := List.mem_map_of_mem (f := (·.1)) hp; rw [q] at this; exact this)⟩
  | @there q r r' u ih =>
    intro p hp
    have hn := List.nodup_cons.mp nd
    rcases List.mem_cons.mp hp with rfl | hp
    · exact .inr ⟨.head _, fun z => hn.1 (by have := List.mem_map_of_mem (f := (·.1)) u.mem; show p.1 ∈ _; rw [z]; exact this)⟩
    · exact (ih hn.2 p hp).imp id fun ⟨a, b⟩ => ⟨.tail _ a, b⟩
theorem Upd1.app {d o o' pre post} : Upd1 d o o' (pre ++ (d, o) :: post) (pre ++ (d, o') :: post) := by
  induction pre with
  | nil => exact .here
  | cons p r ih => exact .there ih
theorem Upd1.right {d o o' l l' x} (u : Upd1 d o o' l l') : Upd1 d o o' (l ++ x) (l' ++ x) := by
  induction u with
  | here => exact .here
  | there _ ih => exact .there ih
theorem Upd1.left {d o o' l l' x} (u : Upd1 d o o' l l') : Upd1 d o o' (x ++ l) (x ++ l') := by
  induction x with
  | nil => exact u
  | cons _ _ ih => exact .there ih

section
variable {e : Ent} {nm : List Str} {L : Addr} {g h : Heap} {vals : List (Option Value)} {news news' : List (Addr × Obj)}
theorem Mem.upd {d : Addr} {o o' : Obj} {h' : Heap} (S : Mem e g h news) (u : Upd1 d o o' news news') (hs : ∀ b x, b ≠ d → h.get? b = some x → h'.get? b = some x) (ho : h'.get? d = some o') : Mem e g h' news' := by
  have hd := S.hold _ u.mem
  refine ⟨fun b x q => hs b x (fun hb => (by rw [hb, hd.2] at q; cases q)) (S.keep b x q), fun p hp => ?_, u.fst ▸ S.nd, S.base, fun b x q hw => hs b x (fun hb => ?_) (S.kept b x q hw), S.fresh, fun p hp => ?_, fun b hb q => ?_, S.G0⟩
  · rcases u.of S.nd p hp with rfl | ⟨hp, hn⟩
    · exact ⟨ho, hd.2⟩
    · exact ⟨hs _ _ hn (S.hold p hp).1, (S.hold p hp).2⟩
  · subst hb
    rcases S.own _ u.mem with k | k
    · exact hw k
    · rw [k] at q; cases q
  · rcases u.of S.nd p hp with rfl | ⟨hp, hn⟩
    · exact S.own (d, o) u.mem
    · exact S.own p hp
  · by_cases hbd : b = d
    · subst hbd; rw [ho] at q; cases q
    · cases q' : h.get? b with
      | none => exact S.alive b hb q'
      | some x => rw [hs _ _ hbd q'] at q; cases q
theorem St.upd {d : Addr} {o o' : Obj} {h' : Heap} (S : St e nm L g h vals news) (u : Upd1 d o o' news news') (hs : Heap.SameBut d h h') (ho : h'.get? d = some o') : St e nm L g h' vals news' :=
  ⟨S.mem.upd u (fun b x hb q => (hs.2 b hb).trans q) ho, S.ns.sameBut hs (Ne.symm (S.Ln _ u.mem)), S.off, fun p hp => by
    rcases u.of S.mem.nd p hp with rfl | ⟨hp, _⟩
    · exact S.Ln (d, o) u.mem
    · exact S.Ln p hp, S.Gs, S.Lf, S.LW⟩
theorem St.updK {d : Addr} {o o' : Obj} {h' : Heap} (S : St e nm L g h vals news) (u : Upd1 d o o' news news') (hs : ∀ b x, b ≠ d → h.get? b = some x → h'.get? b = some x) (ho : h'.get? d = some o') : St e nm L g h' vals news' :=
  ⟨S.mem.upd u hs ho, (by
    obtain ⟨oL, es, ep, a, r⟩ := S.ns
    exact ⟨oL, es, ep, hs _ _ (Ne.symm (S.Ln _ u.mem)) a, r⟩), S.off, fun p hp => by
    rcases u.of S.mem.nd p hp with rfl | ⟨hp, _⟩
    · exact S.Ln (d, o) u.mem
    · exact S.Ln p hp, S.Gs, S.Lf, S.LW⟩
end

/-! contracts -/
structure Room (A : Around) (n : Nat) : Prop where
  h : A.handled = none
  d : A.depth + 2 * n < recursionLimit
  u : A.units + 8 * n + 100 < cLine
theorem Room.deeper {A : Around} {n : Nat} (r : Room A (n + 1)) (env : Env) : Room (A.deeper env) n := ⟨r.h, by rw [depth_deeper]; have := r.d; (first | lia | omega), by rw [units_deeper]; have := r.u; (first | lia | omega)⟩
theorem Room.le {A : Around} {n m : Nat} (r : Room A n) (h : m ≤ n) : Room A m := ⟨r.h, by have := r.d; (first | lia | omega), by have := r.u; (first | lia | omega)⟩

abbrev nE : Value → Shared → Prop := fun _ _ => False

structure Pre (G H g : Heap) (W : List (Addr × Obj)) : Prop where
  Gg : Le G g
  gH : Le g H
  Gs : G.objs.size ≤ H.objs.size
  hold : ∀ p ∈ W, H.get? p.1 = some p.2 ∧ g.get? p.1 = none
  nd : (W.map (·.1)).Nodup
abbrev ent (G H g : Heap) (W : List (Addr × Obj)) : Ent := ⟨G, H, W.map (·.1), g⟩
noncomputable def backK (Q : Value → Shared → Prop) (r : Result) (s : Shared) : Prop := match r with
  | .ok (.ret v) => Q v s
  | _ => False
noncomputable def Fn (prog : Program) (w : World) (f : Value) (n : Nat) (args : List Value) (G H g : Heap) (W : List (Addr × Obj)) (Post : Value → Heap → List (Addr × Obj) → Prop) : Prop :=
  ∀ (A : Around) (gs : Array GenState) (dr : Drawn) (tk : Nat) (os : OsState) (Q : Value → Shared → Prop), Room A n → Pre G H g W →
    (∀ v h' tk' g' W', Mem (ent G H g W) g' h' W' → Post v g' W' → Q v ⟨h', gs, dr, tk', os⟩) → codeAny (model prog w) A (.call f ⟨args, []⟩) (backK Q) ⟨H, gs, dr, tk, os⟩

theorem Pre.mem {G H g : Heap} {W : List (Addr × Obj)} (P : Pre G H g W) : Mem (ent G H g W) g H W :=
  ⟨P.gH, P.hold, P.nd, fun _ _ q => q, fun _ _ q _ => q, fun _ _ q => .inl q, fun p hp => .inl (List.mem_map_of_mem hp), fun b hb q => (by
    obtain ⟨p, hp, rfl⟩ := List.mem_map.mp hb
    rw [(P.hold p hp).1] at q; exact nomatch q), P.Gg⟩

section
variable {e : Ent} {nm : List Str} {L : Addr} {g h : Heap} {vals : List (Option Value)} {news : List (Addr × Obj)} {prog : Program} {w : World} {A : Around} {gs : Array GenState} {dr : Drawn} {tk : Nat} {os : OsState}
/-- behind a call that had W in its hands -/
theorem St.after {W rest : List (Addr × Obj)} (S : St e nm L g h vals (W ++ rest)) {g' h' : Heap} {W' : List (Addr × Obj)} (M : Mem (ent e.G h g W) g' h' W') : Le g g' ∧ St e nm L g' h' vals (W' ++ rest) := by
  have nW : ∀ p ∈ rest, p.1 ∉ W.map (·.1) := fun p hp hw => by
    have nd := S.mem.nd
    rw [List.map_append, List.nodup_append] at nd
    exact nd.2.2 _ hw _ (List.mem_map_of_mem hp) rfl
  have nL : L ∉ W.map (·.1) := fun hw => by
    obtain ⟨p, hp, e1⟩ := List.mem_map.mp hw
    exact S.Ln p (List.mem_append_left _ hp) e1
  have gone : ∀ b, h.get? b ≠ none → g.get? b = none → g'.get? b = none := fun b h1 h2 => by
    cases q : g'.get? b with
    | none => rfl
    | some o =>
      rcases M.fresh b o q with k | k
      · rw [show g.get? b = some o from k] at h2; cases h2
      · exact absurd k h1
  obtain ⟨oL, es, ep, hL, hr⟩ := S.ns
  refine ⟨M.base, ⟨M.keep, fun p hp => ?_, ?_, fun b o q => M.base _ _ (S.mem.base b o q), fun b o q hw => ?_, fun b o q => ?_, fun p hp => ?_, fun b hb q => ?_, S.mem.G0⟩, ⟨oL, es, ep, M.kept _ _ hL nL, hr⟩, gone L (by rw [hL]; exact fun q => by cases q) S.off, fun p hp => ?_, S.Gs, S.Lf, S.LW⟩
  · rcases List.mem_append.mp hp with hp | hp
    · exact M.hold p hp
    · have k := S.mem.hold p (List.mem_append_right _ hp)
      exact ⟨M.kept _ _ k.1 (nW p hp), gone _ (by rw [k.1]; exact fun q => by cases q) k.2⟩
  · rw [List.map_append, List.nodup_append]
    have nd := S.mem.nd
    rw [List.map_append, List.nodup_append] at nd
    refine ⟨M.nd, nd.2.1, fun a ha b hb e1 => ?_⟩
    subst e1
    obtain ⟨p, hp, rfl⟩ := List.mem_map.mp ha
    obtain ⟨q, hq, e2⟩ := List.mem_map.mp hb
    rcases M.own p hp with k | k
    · exact nW q hq (e2 ▸ k)
    · have z := (S.mem.hold q (List.mem_append_right _ hq)).1
      rw [e2, show h.get? p.1 = none from k] at z; cases z
  · by_cases hbW : b ∈ W.map (·.1)
    · obtain ⟨p, hp, rfl⟩ := List.mem_map.mp hbW
      rcases S.mem.own p (List.mem_append_left _ hp) with k | k
      · exact absurd k hw
      · rw [k] at q; cases q
    · exact M.kept _ _ (S.mem.kept b o q hw) hbW
  · rcases M.fresh b o q with k | k
    · exact S.mem.fresh b o k
    · refine .inr ?_
      cases z : e.H.get? b with
      | none => rfl
      | some o' =>
        by_cases hw : b ∈ e.W
        · exact absurd k (S.mem.alive b hw)
        · have := S.mem.kept b o' z hw
          rw [show h.get? b = none from k] at this; cases this
  · rcases List.mem_append.mp hp with hp | hp
    · rcases M.own p hp with k | k
      · obtain ⟨q, hq, e1⟩ := List.mem_map.mp k
        exact e1 ▸ S.mem.own q (List.mem_append_left _ hq)
      · by_cases hw : p.1 ∈ e.W
        · exact .inl hw
        · refine .inr ?_
          cases z : e.H.get? p.1 with
          | none => rfl
          | some o' =>
            have := S.mem.kept _ o' z hw
            rw [show h.get? p.1 = none from k] at this; cases this
    · exact S.mem.own p (List.mem_append_right _ hp)
  · by_cases hbW : b ∈ W.map (·.1)
    · exact M.alive b hbW q
    · cases z : h.get? b with
      | none => exact S.mem.alive b hb z
      | some o => rw [M.kept _ _ z hbW] at q; cases q
  · rcases List.mem_append.mp hp with hp | hp
    · intro e1
      rcases M.own p hp with k | k
      · exact nL (e1 ▸ k)
      · have z : h.get? L = none := e1 ▸ k
        rw [hL] at z; cases z
    · exact S.Ln p (List.mem_append_right _ hp)

theorem St.pre {W rest : List (Addr × Obj)} (S : St e nm L g h vals (W ++ rest)) : Pre e.G h g W :=
  ⟨fun b o q => S.mem.base b o (S.mem.G0 b o q), S.mem.keep, Nat.le_trans S.Gs (Nat.le_of_lt S.ns.lt), fun p hp => S.mem.hold p (List.mem_append_left _ hp), by
    have nd := S.mem.nd
    rw [List.map_append, List.nodup_append] at nd
    exact nd.1⟩

theorem r_call {f : Value} {n : Nat} {args : List Value} {W rest : List (Addr × Obj)} {Post : Value → Heap → List (Addr × Obj) → Prop} {Q : Value → Shared → Prop} {E : Value → Shared → Prop} (S : St e nm L g h vals news) (hp : news.Perm (W ++ rest)) (C : Fn prog w f n args e.G h g W Post) {m : Nat} (R : Room A m) (hm : n ≤ m)
    (k : ∀ v h' tk' g' W', Le g g' → St e nm L g' h' vals (W' ++ rest) → Post v g' W' → Q v ⟨h', gs, dr, tk', os⟩) : wpAny (model prog w) A (call f args) Q E ⟨h, gs, dr, tk, os⟩ := by
  have S' := S.perm hp
  refine wpAny_call (codeAny_mono (C A gs dr tk os Q (R.le hm) S'.pre fun v h' tk g' W' M hP => k v h' tk g' W' (S'.after M).1 (S'.after M).2 hP) fun r s' z => ?_)
  rcases r with e1 | (v | _ | _ | _) <;> first | exact z | exact z.elim
end

section
variable {e : Ent} {nm : List Str} {L : Addr} {g h : Heap} {vals : List (Option Value)} {prog : Program} {w : World} {A : Around} {gs : Array GenState} {dr : Drawn} {tk : Nat} {os : OsState}
theorem r_call0 {f : Value} {n : Nat} {args : List Value} {W : List (Addr × Obj)} {Post : Value → Heap → List (Addr × Obj) → Prop} {Q : Value → Shared → Prop} {E : Value → Shared → Prop} (S : St e nm L g h vals W) (C : Fn prog w f n args e.G h g W Post) {m : Nat} (R : Room A m) (hm : n ≤ m)
    (k : ∀ v h' tk' g' W', Le g g' → St e nm L g' h' vals W' → Post v g' W' → Q v ⟨h', gs, dr, tk', os⟩) : wpAny (model prog w) A (call f args) Q E ⟨h, gs, dr, tk, os⟩ :=
  r_call S (rest := []) (by rw [List.append_nil]) C R hm fun v h' tk' g' W' a b c => k v h' tk' g' W' a (by rw [List.append_nil] at b; exact b) c
/-- W stands first -/
theorem r_callL {f : Value} {n : Nat} {args : List Value} {W rest : List (Addr × Obj)} {Post : Value → Heap → List (Addr × Obj) → Prop} {Q : Value → Shared → Prop} {E : Value → Shared → Prop} (S : St e nm L g h vals (W ++ rest)) (C : Fn prog w f n args e.G h g W Post) {m : Nat} (R : Room A m) (hm : n ≤ m)
    (k : ∀ v h' tk' g' W', Le g g' → St e nm L g' h' vals (W' ++ rest) → Post v g' W' → Q v ⟨h', gs, dr, tk', os⟩) : wpAny (model prog w) A (call f args) Q E ⟨h, gs, dr, tk, os⟩ :=
  r_call S (.refl _) C R hm k
end

/-! the contract of a def, from the walk of its body -/
theorem lkV_binds : ∀ (binds : List (Str × Value)) (more : List Str), (fun x => binds.lookup x) = lkV (binds.map (·.1) ++ more) (binds.map (fun p => some p.2) ++ more.map fun _ => none) := by
  have none_of : ∀ (more : List Str) x, lkV more (more.map fun _ => (none : Option Value)) x = none := by
    intro more
    induction more with
    | nil => intro x; rfl
    | cons y r ih => intro x; simp only [List.map_cons, lkV]; split <;> simp_all
  intro binds more
  funext x
  induction binds with
  | nil => simp only [List.lookup_nil, List.map_nil, List.nil_append]; exact (none_of more x).symm
  | cons p r ih =>
    simp only [List.map_cons, List.cons_append, lkV]
    obtain ⟨y, v⟩ := p
    rw [List.lookup_cons]
    by_cases hx : x = y
    · subst hx; simp
    · rw [if_neg hx, ← ih, show (x == y) = false by simpa using hx]
theorem lookup_rev {α β : Type} [BEq α] [LawfulBEq α] : ∀ (l : List (α × β)), (l.map (·.1)).Nodup → ∀ x, l.reverse.lookup x = l.lookup x := by
  have app : ∀ (a b : List (α × β)) x, (a ++ b).lookup x = (a.lookup x).or (b.lookup x) := by
    intro a
    induction a with
    | nil => intro b x; simp
    | cons p r ih => intro b x; obtain ⟨y, v⟩ := p; simp only [List.cons_append, List.lookup_cons]; split <;> simp [ih]
  have nin : ∀ (l : List (α × β)) x, x ∉ l.map (·.1) → l.lookup x = none := by
    intro l
    induction l with
    | nil => intro x _; rfl
    | cons p r ih =>
      intro x hx
      obtain ⟨y, v⟩ := p
      simp only [List.map_cons, List.mem_cons, not_or] at hx
      rw [List.lookup_cons, show (x == y) = false by simpa using hx.1]
      exact ih x hx.2
  intro l
  induction l with
  | nil => intro _ x; rfl
  | cons p r ih =>
    intro nd x
    obtain ⟨y, v⟩ := p
    have hn := List.nodup_cons.mp nd
    rw [List.reverse_cons, app, ih hn.2, List.lookup_cons]
    by_cases hx : (x == y) = true
    · have hx' : x = y := by simpa using hx
      rw [hx, nin r x (hx' ▸ hn.1), List.lookup_cons, hx]
      rfl
    · have hx' : (x == y) = false := by simpa using hx
      rw [hx', List.lookup_cons, hx']
      simp

section
variable {K : Frag} {G H g : Heap} {mg mb : Str → Option Value} {W : List (Addr × Obj)} {prog : Program} {w : World}
noncomputable def retV : Flow → Value
  | .ret v => v
  | _ => .none
/-- a continuation held as a variable -/
noncomputable def OpQ {α : Type} (Q T : α → Shared → Prop) : Prop := ∀ v s, Q v s → T v s
theorem OpQ.out {α : Type} {Q T : α → Shared → Prop} {v : α} {s : Shared} (h : OpQ Q T) (k : Q v s) : T v s := h v s k
noncomputable def OpAll {α : Type} (Q : α → Shared → Prop) (F : (α → Shared → Prop) → Prop) : Prop := ∀ T, OpQ Q T → F T
theorem OpAll.all {α : Type} {Q : α → Shared → Prop} {F : (α → Shared → Prop) → Prop} (h : ∀ T, OpQ Q T → F T) : OpAll Q F := h
theorem OpAll.go {α : Type} {Q : α → Shared → Prop} {F : (α → Shared → Prop) → Prop} (h : OpAll Q F) : F Q := h Q fun _ _ z => z
noncomputable def endK (e : Ent) (gs : Array GenState) (dr : Drawn) (os : OsState) (Post : Value → Heap → List (Addr × Obj) → Prop) : Flow → Shared → Prop := fun fl s' =>
  (Ex4 fun g' W' h' tk => An3 (s' = ⟨h', gs, dr, tk, os⟩) (Mem e g' h' W') (Post (retV fl) g' W'))
theorem x_end {e : Ent} {gs : Array GenState} {dr : Drawn} {os : OsState} {Post : Value → Heap → List (Addr × Obj) → Prop} {nm : List Str} {L : Addr} {g h : Heap} {vals : List (Option Value)} {W rest news : List (Addr × Obj)} {v : Value} {tk : Nat} (S : St e nm L g h vals news) (hp : news.Perm (W ++ rest)) (hP : Post v g W) : endK e gs dr os Post (.ret v) ⟨h, gs, dr, tk, os⟩ :=
  ⟨g, W, h, tk, rfl, ((S.perm hp).sublist (List.sublist_append_left W rest)).mem, hP⟩
theorem x_endN {e : Ent} {gs : Array GenState} {dr : Drawn} {os : OsState} {Post : Value → Heap → List (Addr × Obj) → Prop} {nm : List Str} {L : Addr} {g h : Heap} {vals : List (Option Value)} {W rest news : List (Addr × Obj)} {tk : Nat} (S : St e nm L g h vals news) (hp : news.Perm (W ++ rest)) (hP : Post .none g W) : endK e gs dr os Post .next ⟨h, gs, dr, tk, os⟩ :=
  ⟨g, W, h, tk, rfl, ((S.perm hp).sublist (List.sublist_append_left W rest)).mem, hP⟩
theorem x_end0 {e : Ent} {gs : Array GenState} {dr : Drawn} {os : OsState} {Post : Value → Heap → List (Addr × Obj) → Prop} {nm : List Str} {L : Addr} {g h : Heap} {vals : List (Option Value)} {W : List (Addr × Obj)} {v : Value} {tk : Nat} (S : St e nm L g h vals W) (hP : Post v g W) : endK e gs dr os Post (.ret v) ⟨h, gs, dr, tk, os⟩ := ⟨g, W, h, tk, rfl, S.mem, hP⟩
theorem x_endN0 {e : Ent} {gs : Array GenState} {dr : Drawn} {os : OsState} {Post : Value → Heap → List (Addr × Obj) → Prop} {nm : List Str} {L : Addr} {g h : Heap} {vals : List (Option Value)} {W : List (Addr × Obj)} {tk : Nat} (S : St e nm L g h vals W) (hP : Post .none g W) : endK e gs dr os Post .next ⟨h, gs, dr, tk, os⟩ := ⟨g, W, h, tk, rfl, S.mem, hP⟩
theorem fn_def {f : Addr} {n : Nat} {args : List Value} (binds : List (Str × Value)) (nm gl : List Str) (vs : List (Option Value)) {more : List Str} {Post : Value → Heap → List (Addr × Obj) → Prop}
    {name qual : Str} {params : Arguments} {body : List Stmt} {scope : Scope} {dV kV doc pm cdv ct oc : Value} {an od : Option Addr} {osl : Array (Option Value)}
    (B : Base K G mg mb) (ho : K.lookup f = some ⟨oc, od, .func (fnOf name qual params body scope dV kV doc pm an cdv ct), osl⟩) (hcd : codeIn K cdv qual = true)
    (hbind : ∀ s : Shared, K.In s.heap → BindsTo s (fnOf name qual params body scope dV kV doc pm an cdv ct) ⟨args, []⟩ binds)
    (hnm : nm = binds.map (·.1) ++ more) (hvs : vs = binds.map (fun p => some p.2) ++ more.map fun _ => none)
    (sc : scpB scope nm gl = true) 
    (h : ∀ A h gs dr tk os L, Room A n → Scp scope nm gl → St (ent G H g W) nm L g h vs W → OpAll (endK (ent G H g W) gs dr os Post) fun T => wpAny (model prog w) A (execs body (envOf qual scope L f cdv)) T nE ⟨h, gs, dr, tk, os⟩)
    (hco : scope.isCoroutine = false := by rfl) (hgen : scope.isGenerator = false := by rfl)
    (hcell : (scope.names.all fun x => x.2 != .cell) = true := by rfl) : Fn prog w (.ref f) (n + 1) args G H g W Post := by
  subst hvs hnm
  have Sc := Scp.of sc
  intro A gs dr tk os Q R P k
  generalize hs : (⟨H, gs, dr, tk, os⟩ : Shared) = s
  have hH : s.heap = H := by rw [← hs]
  subst hH
  have hG : Le G s.heap := fun b o q => P.gH b o (P.Gg b o q)
  have X := B.X.keeps hG
  have hcell' : ∀ x ∈ scope.names, x.2 ≠ .cell := fun x hx q => by
    have := List.all_eq_true.mp hcell x hx
    rw [q] at this; cases this
  refine codeAny_call_def (fd := fnOf name qual params body scope dV kV doc pm an cdv ct) (body := body) (binds := binds) (by have := R.d; (first | lia | omega)) (X _ _ ho) rfl (B.lim.keeps hG) (codeRec_of X hcd) rfl (hbind s X) hcell' (fun x hx => Sc.loc _ (List.mem_append_left _ (List.mem_map_of_mem hx))) (fun h₁ hns hk₁ => ?_) hco hgen Sc.fn
  have nd : (binds.map (·.1)).Nodup := (List.nodup_append.mp Sc.nd).1
  have hns' : h₁.Ns s.heap.objs.size (lkV (binds.map (·.1) ++ more) (binds.map (fun p => some p.2) ++ more.map fun _ => none)) := by
    rw [← lkV_binds]
    rwa [show (fun x => binds.reverse.lookup x) = fun x => binds.lookup x from funext fun x => lookup_rev _ nd x] at hns
  have hL := get_none_size s.heap
  have LW : s.heap.objs.size ∉ W.map (·.1) := fun hw => by
    obtain ⟨p, hp, e1⟩ := List.mem_map.mp hw
    have := (P.hold p hp).1
    rw [e1, hL] at this; cases this
  have Lg : g.get? s.heap.objs.size = none := by
    cases q : g.get? s.heap.objs.size with
    | none => rfl
    | some o => rw [P.gH _ _ q] at hL; cases hL
  have S₁ : St (ent G s.heap g W) (binds.map (·.1) ++ more) s.heap.objs.size g h₁ (binds.map (fun p => some p.2) ++ more.map fun _ => none) W := by
    refine ⟨⟨fun b o q => hk₁ _ _ (P.gH b o q), fun p hp => ⟨hk₁ _ _ (P.hold p hp).1, (P.hold p hp).2⟩, P.nd, fun _ _ q => q, fun b o q _ => hk₁ _ _ q, fun _ _ q => .inl q, fun p hp => .inl (List.mem_map_of_mem hp), fun b hb q => ?_, P.Gg⟩, hns', Lg, fun p hp e1 => LW (e1 ▸ List.mem_map_of_mem hp), P.Gs, hL, LW⟩
    obtain ⟨p, hp, rfl⟩ := List.mem_map.mp hb
    rw [hk₁ _ _ (P.hold p hp).1] at q; cases q
  have h2 := congrArg Shared.gens hs
  have h3 := congrArg Shared.drawn hs
  have h4 := congrArg Shared.os hs
  dsimp only at h2 h3 h4
  subst h2 h3 h4
  refine wpAny_mono (h _ h₁ _ _ _ _ s.heap.objs.size (R.deeper _) Sc S₁).go (fun fl s' hl => ?_) fun _ _ z => z.elim
  obtain ⟨g', W', h', tk', rfl, M, hP⟩ := hl
  cases fl <;> exact k _ h' tk' g' W' M hP
end

/-- the end of a walk -/
theorem St.ends {e : Ent} {nm : List Str} {L : Addr} {g h : Heap} {vals : List (Option Value)} {W rest : List (Addr × Obj)} (S : St e nm L g h vals (W ++ rest)) : Mem e g h W :=
  (S.sublist (List.sublist_append_left W rest)).mem

end Mine
namespace Mine

/-! what stands where -/
noncomputable def LstO (o : Obj) (vs : List Value) : Prop := ∃ n, o = listOf vs.toArray n
noncomputable def IntsO (o : Obj) (ns : List Int) : Prop := ∃ vs, LstO o vs ∧ IntsAre vs ns
noncomputable def LstAt (h : Heap) (a : Addr) (vs : List Value) : Prop := ∃ o, h.get? a = some o ∧ LstO o vs
noncomputable def IntsAt (h : Heap) (a : Addr) (ns : List Int) : Prop := ∃ o, h.get? a = some o ∧ IntsO o ns
noncomputable def TupAt (h : Heap) (a : Addr) (vs : List Value) : Prop := ∃ n, h.get? a = some { cls := .type "tuple", data := .seq vs.toArray n }
theorem LstAt.le {g h a vs} (x : LstAt g a vs) (k : Le g h) : LstAt h a vs := let ⟨o, q, r⟩ := x; ⟨o, k _ _ q, r⟩
theorem IntsAt.le {g h a vs} (x : IntsAt g a vs) (k : Le g h) : IntsAt h a vs := let ⟨o, q, r⟩ := x; ⟨o, k _ _ q, r⟩
theorem TupAt.le {g h a vs} (x : TupAt g a vs) (k : Le g h) : TupAt h a vs := let ⟨n, q⟩ := x; ⟨n, k _ _ q⟩
theorem IntsO.lst {o ns} (x : IntsO o ns) : ∃ vs, LstO o vs ∧ IntsAre vs ns := x
theorem LstAt.isList {h a vs} (x : LstAt h a vs) : h.IsList a vs.toArray := by
  obtain ⟨o, q, n, rfl⟩ := x
  exact ⟨_, q, rfl, n, rfl⟩
theorem LstAt.isL {h a vs} (x : LstAt h a vs) : ∃ n, PySem.IsL h a vs.toArray n := by
  obtain ⟨o, q, n, rfl⟩ := x
  exact ⟨n, q⟩
theorem IntsAt.lst {h a ns} (x : IntsAt h a ns) : ∃ vs, LstAt h a vs ∧ IntsAre vs ns := by
  obtain ⟨o, q, vs, r, i⟩ := x
  exact ⟨vs, ⟨o, q, r⟩, i⟩
theorem TupAt.isTup {h a vs} (x : TupAt h a vs) : IsTup h a vs.toArray := by
  obtain ⟨n, q⟩ := x
  exact ⟨_, q, rfl, n, rfl⟩
theorem LstO.new (vs : List Value) : LstO { cls := .type "list", data := .seq vs.toArray } vs := ⟨0, rfl⟩
theorem IntsO.nil : IntsO { cls := .type "list", data := .seq [].toArray } [] := ⟨[], ⟨0, rfl⟩, .nil⟩
theorem LstO.ints {o vs ns} (x : LstO o vs) (i : IntsAre vs ns) : IntsO o ns := ⟨vs, x, i⟩
theorem LstAt.ints {h a vs ns} (x : LstAt h a vs) (i : IntsAre vs ns) : IntsAt h a ns := let ⟨o, q, r⟩ := x; ⟨o, q, vs, r, i⟩

section
variable {e : Ent} {nm : List Str} {L : Addr} {g h : Heap} {vals : List (Option Value)} {news : List (Addr × Obj)} {a : Addr} {o : Obj}
theorem St.le (S : St e nm L g h vals news) : Le g h := S.mem.keep
theorem St.at (S : St e nm L g h vals news) (hm : (a, o) ∈ news) : h.get? a = some o := (S.mem.hold _ hm).1
theorem St.lst (S : St e nm L g h vals news) (hm : (a, o) ∈ news) {vs} (x : LstO o vs) : LstAt h a vs := ⟨o, S.at hm, x⟩
theorem St.ints (S : St e nm L g h vals news) (hm : (a, o) ∈ news) {ns} (x : IntsO o ns) : IntsAt h a ns := ⟨o, S.at hm, x⟩
theorem St.upd' {news' : List (Addr × Obj)} {d : Addr} {o o' : Obj} {h' : Heap} (S : St e nm L g h vals news) (u : Upd1 d o o' news news') (hn : h'.Ns L (lkV nm vals)) (hs : ∀ b x, b ≠ d → b ≠ L → h.get? b = some x → h'.get? b = some x) (ho : h'.get? d = some o') : St e nm L g h' vals news' := by
  have hd := S.mem.hold _ u.mem
  have hL : ∀ p ∈ news', p.1 ≠ L := fun p hp => by
    rcases u.of S.mem.nd p hp with rfl | ⟨hp, _⟩
    · exact S.Ln (d, o) u.mem
    · exact S.Ln p hp
  refine ⟨⟨fun b x q => hs b x (fun hb => (by rw [hb, hd.2] at q; cases q)) (fun hb => (by rw [hb, S.off] at q; cases q)) (S.mem.keep b x q), fun p hp => ?_, u.fst ▸ S.mem.nd, S.mem.base, fun b x q hw => hs b x (fun hb => ?_) (fun hb => (by rw [hb, S.Lf] at q; cases q)) (S.mem.kept b x q hw), S.mem.fresh, fun p hp => ?_, fun b hb q => ?_, S.mem.G0⟩, hn, S.off, hL, S.Gs, S.Lf, S.LW⟩
  · rcases u.of S.mem.nd p hp with rfl | ⟨hp', hn⟩
    · exact ⟨ho, hd.2⟩
    · exact ⟨hs _ _ hn (S.Ln p hp') (S.mem.hold p hp').1, (S.mem.hold p hp').2⟩
  · subst hb
    rcases S.mem.own _ u.mem with k | k
    · exact hw k
    · rw [k] at q; cases q
  · rcases u.of S.mem.nd p hp with rfl | ⟨hp, hn⟩
    · exact S.mem.own (d, o) u.mem
    · exact S.mem.own p hp
  · by_cases hbd : b = d
    · subst hbd; rw [ho] at q; cases q
    · cases q' : h.get? b with
      | none => exact S.mem.alive b hb q'
      | some x => rw [hs _ _ hbd (fun z => S.LW (z ▸ hb)) q'] at q; cases q

/-- every object of the heap but some, as a ledger -/
noncomputable def restOf (G h : Heap) (ex : List Addr) : List (Addr × Obj) := (List.range h.objs.size).filterMap fun b => if ex.contains b || (G.get? b).isSome then none else (h.get? b).map fun o => (b, o)
theorem mem_restOf {G h : Heap} {ex : List Addr} {p : Addr × Obj} : p ∈ restOf G h ex ↔ p.1 ∉ ex ∧ G.get? p.1 = none ∧ h.get? p.1 = some p.2 := by
  obtain ⟨b, o⟩ := p
  unfold restOf
  simp only [List.mem_filterMap, List.mem_range]
  constructor
  · rintro ⟨c, hc, q⟩
    split at q
    · cases q
    · rename_i hq
      simp only [Bool.or_eq_true, List.contains_eq_mem, decide_eq_true_eq, not_or] at hq
      cases z : h.get? c with
      | none => rw [z] at q; cases q
      | some o' =>
        rw [z] at q
        simp only [Option.map_some, Option.some.injEq, Prod.mk.injEq] at q
        obtain ⟨rfl, rfl⟩ := q
        refine ⟨hq.1, ?_, z⟩
        simpa using hq.2
  · rintro ⟨h1, h2, h3⟩
    refine ⟨b, Heap.lt_size h3, ?_⟩
    rw [if_neg (by simp [h1, h2]), h3]; rfl
theorem St.nwAll (S : St e nm L g h vals news) {d : Addr} {o : Obj} (hm : (d, o) ∈ news) : News e.G L h ((d, o) :: restOf e.G h [L, d]) := fun p hp => by
  rcases List.mem_cons.mp hp with rfl | hp
  · exact S.nw _ hm
  · obtain ⟨h1, h2, h3⟩ := mem_restOf.mp hp
    exact ⟨h3, fun q => h1 (by rw [q]; exact .head _), h2⟩
theorem St.backAll (S : St e nm L g h vals news) {news' : List (Addr × Obj)} {d : Addr} {o o' : Obj} {h' : Heap} (u : Upd1 d o o' news news') (F : Fr e.G L h' (lkV nm vals)) (N : News e.G L h' ((d, o') :: restOf e.G h [L, d])) : St e nm L g h' vals news' := by
  refine S.upd' u F.ns (fun b x hb hL q => ?_) (N _ (.head _)).1
  cases z : e.G.get? b with
  | some y =>
    have := S.Gkeep _ _ z
    rw [q] at this
    cases this
    exact F.keep _ _ z
  | none => exact (N (b, x) (.tail _ (mem_restOf.mpr ⟨by simp [hb, hL], z, q⟩))).1
end

/-! statements -/
noncomputable def seqK (M : Model) (A : Around) (rest : List Stmt) (env : Env) (Q : Flow → Shared → Prop) (E : Value → Shared → Prop) : Flow → Shared → Prop
  | .next, s => wpAny M A (execs rest env) Q E s
  | f, s => Q f s
section
variable {M : Model} {A : Around} {E : Value → Shared → Prop} {s : Shared} {env : Env}
theorem x_cons {st : Stmt} {rest : List Stmt} {Q : Flow → Shared → Prop} (h : wpAny M A (exec st env) (seqK M A rest env Q E) E s) : wpAny M A (execs (st :: rest) env) Q E s :=
  wpAny_execs_cons (wpAny_mono h (fun f s' z => by cases f <;> exact z) fun _ _ z => z)
theorem x_next {rest : List Stmt} {Q : Flow → Shared → Prop} (h : wpAny M A (execs rest env) Q E s) : seqK M A rest env Q E .next s := h
theorem x_ret {rest : List Stmt} {v : Value} {Q : Flow → Shared → Prop} (h : Q (.ret v) s) : seqK M A rest env Q E (.ret v) s := h
theorem if_dec {P : Prop} {dP : Decidable P} {T F : Prop} (h1 : P → T) (h2 : ¬ P → F) : if decide P = true then T else F := by
  by_cases p : P
  · simp only [p, decide_true, if_true]; exact h1 p
  · simp only [p, decide_false, Bool.false_eq_true, if_false]; exact h2 p
theorem if_ndec {P : Prop} {dP : Decidable P} {T F : Prop} (h1 : ¬ P → T) (h2 : P → F) : if (!decide P) = true then T else F := by
  by_cases p : P
  · simp only [p, decide_true, Bool.not_true, Bool.false_eq_true, if_false]; exact h2 p
  · simp only [p, decide_false, Bool.not_false, if_true]; exact h1 p
theorem if_b {b : Bool} {T F : Prop} (h1 : b = true → T) (h2 : b = false → F) : if b = true then T else F := by
  cases b
  · exact h2 rfl
  · exact h1 rfl
theorem if_t {T F : Prop} (h : T) : if true = true then T else F := h
theorem if_f {T F : Prop} (h : F) : if false = true then T else F := h
end

section
variable {K : Frag} {mg mb : Str → Option Value} {prog : Program} {w : World} {A : Around} {E : Value → Shared → Prop} {h0 : Heap} {gs : Array GenState} {dr : Drawn} {tk : Nat} {os : OsState} {e : Ent} {nm gl : List Str} {L a : Addr} {g : Heap} {vals vals' : List (Option Value)} {news : List (Addr × Obj)} {cn : Str} {cs : Scope} {cd : Value}

theorem r_loc {M : Model} {x : Str} {pos : Pos} {v : Value} {Q : Value → Shared → Prop} (sc : Scp cs nm gl) (S : St e nm L g h0 vals news) (ha : At nm vals x v) (h : Q v ⟨h0, gs, dr, tk, os⟩) : wpAny M A (eval (.Name x pos) (envOf cn cs L a cd)) Q E ⟨h0, gs, dr, tk, os⟩ :=
  ld S.fr (ha.lk sc.nd) h sc.fn (sc.loc _ ha.mem) (sc.nodb _ (List.mem_append_left _ ha.mem))
theorem r_ldn {M : Model} {x : Str} {v : Value} {Q : Value → Shared → Prop} (sc : Scp cs nm gl) (S : St e nm L g h0 vals news) (ha : At nm vals x v) (h : Q v ⟨h0, gs, dr, tk, os⟩) : wpAny M A (loadName (envOf cn cs L a cd) x) Q E ⟨h0, gs, dr, tk, os⟩ :=
  ldn S.fr (ha.lk sc.nd) h sc.fn (sc.loc _ ha.mem)
theorem r_store {M : Model} {x : Str} {v : Value} {Q : Unit → Shared → Prop} (sc : Scp cs nm gl) (S : St e nm L g h0 vals news) (ha : SetAt nm vals x v vals')
    (h : ∀ h', St e nm L g h' vals' news → Q () ⟨h', gs, dr, tk + 1, os⟩) : wpAny M A (storeName (envOf cn cs L a cd) x v) Q E ⟨h0, gs, dr, tk, os⟩ :=
  wpAny_storeName_local (sc.loc _ ha.mem) S.ns (fun h' hn hs => h h' (S.store (by rw [← ha.lk sc.nd]; exact hn) hs))
    (by show (cs.kind == .class || (cs.kind == .module && L != mainGlobals)) = false; rw [sc.fn]; rfl)

noncomputable def GlobIs (K : Frag) (x : Str) (v : Value) : Prop := nsIn K mainGlobals x = some (some v) ∨ (nsIn K mainGlobals x = some none ∧ bootBuiltins x = some v ∧ x ≠ "__name__")
theorem r_glob {M : Model} {x : Str} {pos : Pos} {v : Value} {Q : Value → Shared → Prop} (sc : Scp cs nm gl) (S : St e nm L g h0 vals news) (B : Base K e.G mg mb) (hx : x ∈ gl) (hg : GlobIs K x v) (h : Q v ⟨h0, gs, dr, tk, os⟩) : wpAny M A (eval (.Name x pos) (envOf cn cs L a cd)) Q E ⟨h0, gs, dr, tk, os⟩ := by
  have hd := sc.nodb x (List.mem_append_right _ hx)
  have hk := sc.glo x hx
  rcases hg with hg | ⟨hg, hb, hn⟩
  · exact ld_global_at S.fr B.g (mg_of B.X B.g hg) h sc.fn hk hd
  · exact ld_builtin_at S.fr B.g (mg_none_of B.X B.g hg) B.b ((B.bt x hn).trans hb) h sc.fn hk hd

theorem x_assign {M : Model} {x : Str} {pos' pos : Pos} {value : Expr} {Q : Flow → Shared → Prop} {env : Env} (h : wpAny M A (eval value env) (fun v s₁ => wpAny M A (storeName env x v) (fun _ => Q .next) E s₁) E ⟨h0, gs, dr, tk, os⟩)
    (hs : swapsWith value (some (.Name x pos')) pos.line env = pure false := by rfl) : wpAny M A (exec (.Assign [.Name x pos'] value pos) env) Q E ⟨h0, gs, dr, tk, os⟩ := wpAny_Assign_Name h hs
theorem x_expr {ex : Expr} {pos : Pos} {Q : Flow → Shared → Prop} (sc : Scp cs nm gl) (h : wpAny (model prog w) A (eval ex (envOf cn cs L a cd)) (fun _ => Q .next) E ⟨h0, gs, dr, tk, os⟩) (hs : swapsWith ex none pos.line (envOf cn cs L a cd) = pure false := by rfl) : wpAny (model prog w) A (exec (.Expr ex pos) (envOf cn cs L a cd)) Q E ⟨h0, gs, dr, tk, os⟩ :=
  wpAny_Expr_any h (by show (cs.kind == .module && _) = false; rw [sc.fn]; rfl) hs

/-! calls -/
theorem r_cw {G : Heap} {pos : Pos} {f : Value} {first : List Value} {x : Expr} {rest : List Expr} {env : Env} {Q : Value → Shared → Prop} (B : Base K G mg mb) (hk : keepIn K f = true) (h : wpAny (model prog w) A (spliced (backTo pos (starEach (x :: rest) env))) (fun vs s₁ => Le G s₁.heap ∧ wpAny (model prog w) A (call f (first ++ vs)) Q E s₁) E ⟨h0, gs, dr, tk, os⟩)
    (he : starEach (x :: rest) env = (false, eval x env) :: starEach rest env := by rfl) (hplain : (backTo pos (starEach rest env)).any (·.1) = false := by rfl) :
    wpAny (model prog w) A (callWith pos f first (backTo pos (starEach (x :: rest) env)) []) Q E ⟨h0, gs, dr, tk, os⟩ :=
  callWith_K (h₀ := G) B.X hk (wpAny_mono h (fun _ _ z => ⟨B.X.keeps z.1, z.2⟩) fun _ _ z => z) he hplain
theorem r_cw0 {pos : Pos} {f : Value} {first : List Value} {env : Env} {Q : Value → Shared → Prop} (S : St e nm L g h0 vals news) (B : Base K e.G mg mb) (hk : keepIn K f = true) (h : wpAny (model prog w) A (call f (first ++ [])) Q E ⟨h0, gs, dr, tk, os⟩) :
    wpAny (model prog w) A (callWith pos f first (backTo pos (starEach [] env)) []) Q E ⟨h0, gs, dr, tk, os⟩ := callWith_K0 (B.X.keeps S.Gkeep) hk h
theorem r_le {P : Prop} {G : Heap} (S : St e nm L g h0 vals news) (hG : e.G = G) (h : P) : Le G h0 ∧ P := ⟨hG ▸ S.Gkeep, h⟩
theorem r_cwA {G : Heap} {pos : Pos} {f : Value} {x : Expr} {rest : List Expr} {env : Env} {Q : Value → Shared → Prop} (B : Base K G mg mb) (hk : keepIn K f = true) (h : wpAny (model prog w) A (spliced (backTo pos (starEach (x :: rest) env))) (fun vs s₁ => Le G s₁.heap ∧ wpAny (model prog w) A (call f vs) Q E s₁) E ⟨h0, gs, dr, tk, os⟩)
    (he : starEach (x :: rest) env = (false, eval x env) :: starEach rest env := by rfl) (hplain : (backTo pos (starEach rest env)).any (·.1) = false := by rfl) :
    wpAny (model prog w) A (callWith pos f [] (backTo pos (starEach (x :: rest) env)) []) Q E ⟨h0, gs, dr, tk, os⟩ := r_cw B hk h he hplain
theorem r_cwB {G : Heap} {pos : Pos} {f self : Value} {x : Expr} {rest : List Expr} {env : Env} {Q : Value → Shared → Prop} (B : Base K G mg mb) (hk : keepIn K f = true) (h : wpAny (model prog w) A (spliced (backTo pos (starEach (x :: rest) env))) (fun vs s₁ => Le G s₁.heap ∧ wpAny (model prog w) A (call f (self :: vs)) Q E s₁) E ⟨h0, gs, dr, tk, os⟩)
    (he : starEach (x :: rest) env = (false, eval x env) :: starEach rest env := by rfl) (hplain : (backTo pos (starEach rest env)).any (·.1) = false := by rfl) :
    wpAny (model prog w) A (callWith pos f [self] (backTo pos (starEach (x :: rest) env)) []) Q E ⟨h0, gs, dr, tk, os⟩ := r_cw (first := [self]) B hk h he hplain
theorem r_cw0A {pos : Pos} {f : Value} {env : Env} {Q : Value → Shared → Prop} (S : St e nm L g h0 vals news) (B : Base K e.G mg mb) (hk : keepIn K f = true) (h : wpAny (model prog w) A (call f []) Q E ⟨h0, gs, dr, tk, os⟩) :
    wpAny (model prog w) A (callWith pos f [] (backTo pos (starEach [] env)) []) Q E ⟨h0, gs, dr, tk, os⟩ := r_cw0 S B hk h
theorem r_cw0B {pos : Pos} {f self : Value} {env : Env} {Q : Value → Shared → Prop} (S : St e nm L g h0 vals news) (B : Base K e.G mg mb) (hk : keepIn K f = true) (h : wpAny (model prog w) A (call f [self]) Q E ⟨h0, gs, dr, tk, os⟩) :
    wpAny (model prog w) A (callWith pos f [self] (backTo pos (starEach [] env)) []) Q E ⟨h0, gs, dr, tk, os⟩ := r_cw0 S B hk h
theorem r_cwb {pos : Pos} {id : String} {first : List Value} {x : Expr} {rest : List Expr} {env : Env} {Q : Value → Shared → Prop} (h : wpAny (model prog w) A (spliced (backTo pos (starEach (x :: rest) env))) (fun vs s₁ => wpAny (model prog w) A (call (.builtin id) (first ++ vs)) Q E s₁) E ⟨h0, gs, dr, tk, os⟩)
    (he : starEach (x :: rest) env = (false, eval x env) :: starEach rest env := by rfl) (hplain : (backTo pos (starEach rest env)).any (·.1) = false := by rfl) :
    wpAny (model prog w) A (callWith pos (.builtin id) first (backTo pos (starEach (x :: rest) env)) []) Q E ⟨h0, gs, dr, tk, os⟩ := by
  rw [he] at h ⊢
  exact callWith_builtin (by show (false || (backTo pos (starEach rest env)).any (·.1)) = false; rw [hplain]; rfl) (evalArgs_plain h)
theorem r_cwbA {pos : Pos} {id : String} {x : Expr} {rest : List Expr} {env : Env} {Q : Value → Shared → Prop} (h : wpAny (model prog w) A (spliced (backTo pos (starEach (x :: rest) env))) (fun vs s₁ => wpAny (model prog w) A (call (.builtin id) vs) Q E s₁) E ⟨h0, gs, dr, tk, os⟩)
    (he : starEach (x :: rest) env = (false, eval x env) :: starEach rest env := by rfl) (hplain : (backTo pos (starEach rest env)).any (·.1) = false := by rfl) :
    wpAny (model prog w) A (callWith pos (.builtin id) [] (backTo pos (starEach (x :: rest) env)) []) Q E ⟨h0, gs, dr, tk, os⟩ := r_cwb h he hplain
theorem r_cwbB {pos : Pos} {id : String} {self : Value} {x : Expr} {rest : List Expr} {env : Env} {Q : Value → Shared → Prop} (h : wpAny (model prog w) A (spliced (backTo pos (starEach (x :: rest) env))) (fun vs s₁ => wpAny (model prog w) A (call (.builtin id) (self :: vs)) Q E s₁) E ⟨h0, gs, dr, tk, os⟩)
    (he : starEach (x :: rest) env = (false, eval x env) :: starEach rest env := by rfl) (hplain : (backTo pos (starEach rest env)).any (·.1) = false := by rfl) :
    wpAny (model prog w) A (callWith pos (.builtin id) [self] (backTo pos (starEach (x :: rest) env)) []) Q E ⟨h0, gs, dr, tk, os⟩ := r_cwb (first := [self]) h he hplain
theorem r_cwt {pos : Pos} {T : String} {x : Expr} {rest : List Expr} {env : Env} {Q : Value → Shared → Prop} (h : wpAny (model prog w) A (spliced (backTo pos (starEach (x :: rest) env))) (fun vs s₁ => wpAny (model prog w) A (call (.type T) vs) Q E s₁) E ⟨h0, gs, dr, tk, os⟩)
    (he : starEach (x :: rest) env = (false, eval x env) :: starEach rest env := by rfl) (hplain : (backTo pos (starEach rest env)).any (·.1) = false := by rfl) :
    wpAny (model prog w) A (callWith pos (.type T) [] (backTo pos (starEach (x :: rest) env)) []) Q E ⟨h0, gs, dr, tk, os⟩ := PyProof.Rows.callWith_type1 h he hplain

/-! lists -/
theorem r_list {Q : Value → Shared → Prop} {vs : List Value} (S : St e nm L g h0 vals news) (h : ∀ r h' o, LstO o vs → St e nm L g h' vals ((r, o) :: news) → Q (.ref r) ⟨h', gs, dr, tk, os⟩) (hsz : vs.length ≤ sizeLine := by size_fits) : wpAny (model prog w) A (newList vs) Q E ⟨h0, gs, dr, tk, os⟩ :=
  wpAny_newList (h _ _ _ (LstO.new vs) (S.push _ rfl)) hsz
theorem r_listI {Q : Value → Shared → Prop} {vs : List Value} (S : St e nm L g h0 vals news) (h : ∀ r h' g', Le g g' → LstAt g' r vs → St e nm L g' h' vals news → Q (.ref r) ⟨h', gs, dr, tk, os⟩) (hsz : vs.length ≤ sizeLine := by size_fits) : wpAny (model prog w) A (newList vs) Q E ⟨h0, gs, dr, tk, os⟩ := by
  obtain ⟨g', k1, k2, k3⟩ := S.pushI { cls := .type "list", data := .seq vs.toArray } rfl
  exact wpAny_newList (h _ _ g' k1 ⟨_, k2, LstO.new vs⟩ k3) hsz
theorem r_tupI {Q : Value → Shared → Prop} {vs : List Value} (S : St e nm L g h0 vals news) (h : ∀ r h' g', Le g g' → TupAt g' r vs → St e nm L g' h' vals news → Q (.ref r) ⟨h', gs, dr, tk, os⟩) (hsz : vs.length ≤ sizeLine := by size_fits) : wpAny (model prog w) A (newTuple vs) Q E ⟨h0, gs, dr, tk, os⟩ := by
  obtain ⟨g', k1, k2, k3⟩ := S.pushI { cls := .type "tuple", data := .seq vs.toArray } rfl
  exact wpAny_newTuple (h _ _ g' k1 ⟨0, k2⟩ k3) hsz

theorem r_len {Q : Value → Shared → Prop} {l : Addr} {vs : List Value} (hl : LstAt h0 l vs) (hz : vs.length < 2 ^ 62) (h : Q (.int vs.length (tk + 1)) ⟨h0, gs, dr, tk + 1 + 1, os⟩) : wpAny (model prog w) A (call (.builtin "len") [.ref l]) Q E ⟨h0, gs, dr, tk, os⟩ :=
  len_list hl.isList (by rw [List.size_toArray]; (first | lia | omega)) (by rw [List.size_toArray]; exact h)
theorem r_lenI {Q : Value → Shared → Prop} {l : Addr} {ns : List Int} (hl : IntsAt h0 l ns) (hz : ns.length < 2 ^ 62) (h : Q (.int ns.length (tk + 1)) ⟨h0, gs, dr, tk + 1 + 1, os⟩) : wpAny (model prog w) A (call (.builtin "len") [.ref l]) Q E ⟨h0, gs, dr, tk, os⟩ := by
  obtain ⟨vs, hv, hi⟩ := hl.lst
  rw [← hi.length] at hz h
  exact r_len hv hz h
theorem r_eqI {Q : Value → Shared → Prop} {l m : Addr} {ns ms : List Int} {n : Nat} (R : Room A n) (hl : IntsAt h0 l ns) (hm : IntsAt h0 m ms) (h : Q (.bool (decide (ns = ms))) ⟨h0, gs, dr, tk, os⟩) : wpAny (model prog w) A (compareOp .Eq (.ref l) (.ref m)) Q E ⟨h0, gs, dr, tk, os⟩ := by
  obtain ⟨vs, hv, hi⟩ := hl.lst
  obtain ⟨us, hv', hi'⟩ := hm.lst
  exact eq_intsK hv.isList hi hv'.isList hi' (by have := R.u; (first | lia | omega)) h
theorem r_neI {Q : Value → Shared → Prop} {l m : Addr} {ns ms : List Int} {n : Nat} (R : Room A n) (hl : IntsAt h0 l ns) (hm : IntsAt h0 m ms) (h : Q (.bool (!decide (ns = ms))) ⟨h0, gs, dr, tk, os⟩) : wpAny (model prog w) A (compareOp .NotEq (.ref l) (.ref m)) Q E ⟨h0, gs, dr, tk, os⟩ := by
  obtain ⟨vs, hv, hi⟩ := hl.lst
  obtain ⟨us, hv', hi'⟩ := hm.lst
  exact ne_intsK hv.isList hi hv'.isList hi' (by have := R.u; (first | lia | omega)) h

theorem r_method {name : Str} {id : String} {pl : Sem Bool} {l : Addr} {vs : List Value} {M : Model} {Q : Value × List Value → Shared → Prop} (hl : LstAt h0 l vs) (slot : Slot "list" name id) (hty : typeOf (.builtin id) = pure (.type "method_descriptor")) (h : Q (.builtin id, [.ref l]) ⟨h0, gs, dr, tk, os⟩) : wpAny M A (getMethod (.ref l) name pl) Q E ⟨h0, gs, dr, tk, os⟩ := by
  obtain ⟨n, q⟩ := hl.isL
  exact getMethod_builtin ⟨_, q, rfl⟩ PySem.F.plainAttrs_list slot hty (fun a e => by cases e; exact ⟨_, q, rfl⟩) h
theorem LstO.push {o : Obj} {vs : List Value} (x : LstO o vs) (v : Value) : LstO (Obj.mapSeq (fun z => z.push v) o) (vs ++ [v]) := by
  obtain ⟨n, rfl⟩ := x
  refine ⟨if ((vs.toArray.push v).size == vs.toArray.size) = true then n else n + 1, ?_⟩
  show Obj.mk _ _ (Data.seq (vs.toArray.push v) _) _ = _
  have : vs.toArray.push v = (vs ++ [v]).toArray := by simp
  simp only [this]
theorem ints_append {vs us : List Value} {ns ms : List Int} (x : IntsAre vs ns) (y : IntsAre us ms) : IntsAre (vs ++ us) (ns ++ ms) := by
  induction x with
  | nil => exact y
  | cons k t _ ih => exact .cons k t ih
theorem r_append {put : Obj → List (Addr × Obj)} {d : Addr} {o : Obj} {vs : List Value} {x : Value} {Q : Value → Shared → Prop} (S : St e nm L g h0 vals news) (hl : LstO o vs) (u : ∀ o', Upd1 d o o' news (put o')) (hz : vs.length ≤ sizeLine)
    (h : ∀ h' o', LstO o' (vs ++ [x]) → St e nm L g h' vals (put o') → Q .none ⟨h', gs, dr, tk, os⟩) : wpAny (model prog w) A (call (.builtin "list.append") [.ref d, x]) Q E ⟨h0, gs, dr, tk, os⟩ := by
  have hm := S.at (u o).mem
  have hl' := hl
  obtain ⟨n, rfl⟩ := hl
  refine call_meets PySem.F.slot_list_append ⟨_, hm, rfl⟩ PySem.F.entry_list_append (PySem.F.args_list_append_2 _ _) (PySem.list_append d vs.toArray n x (by rw [List.size_toArray]; exact hz)) ⟨hm, ?_⟩
  exact h _ _ (hl'.push x) (S.upd (u _) (Heap.SameBut.update ..) (Heap.get?_update_self _ hm rfl))
theorem r_pop0 {put : Obj → List (Addr × Obj)} {d : Addr} {o : Obj} {v : Value} {vs : List Value} {t : Tok} {Q : Value → Shared → Prop} (S : St e nm L g h0 vals news) (hl : LstO o (v :: vs)) (u : ∀ o', Upd1 d o o' news (put o')) (hz : vs.length < sizeLine)
    (h : ∀ h' o', LstO o' vs → St e nm L g h' vals (put o') → Q v ⟨h', gs, dr, tk, os⟩) : wpAny (model prog w) A (call (.builtin "list.pop") [.ref d, .int 0 t]) Q E ⟨h0, gs, dr, tk, os⟩ := by
  have hm := S.at (u o).mem
  obtain ⟨n, rfl⟩ := hl
  have hz' : (v :: vs).toArray.size ≤ sizeLine := by rw [List.size_toArray, List.length_cons]; exact hz
  have hk : seqIndex? 0 (v :: vs).toArray.size = some 0 := seqIndex_of (by (first | lia | omega)) (by rw [List.size_toArray, List.length_cons]; (first | lia | omega))
  refine call_meets PySem.F.slot_list_pop ⟨_, hm, rfl⟩ PySem.F.entry_list_pop (PySem.F.args_list_pop_2 _ _) (PySem.MeetsSeq.list_pop_at d _ n 0 t 0 v (by decide) hk (by simp) hz') ⟨hm, ?_⟩
  refine h _ _ ?_ (S.upd (u _) (Heap.SameBut.update ..) (Heap.get?_update_self _ hm rfl))
  have e1 : ((v :: vs).toArray).eraseIdxIfInBounds 0 = vs.toArray := kl_erase [] vs v
  refine ⟨if ((((v :: vs).toArray).eraseIdxIfInBounds 0).size == (v :: vs).toArray.size) = true then n else n + 1, ?_⟩
  show Obj.mk _ _ (Data.seq (((v :: vs).toArray).eraseIdxIfInBounds 0) _) _ = _
  simp only [e1]
end
section
variable {M : Model} {prog : Program} {w : World} {A : Around} {E : Value → Shared → Prop} {h0 : Heap} {gs : Array GenState} {dr : Drawn} {tk : Nat} {os : OsState} {a b : Int} {t u : Tok} {env : Env}
theorem r_int {k : Nat} {pos : Pos} {Q : Value → Shared → Prop} (h : Q (.int a tk) ⟨h0, gs, dr, tk + 1, os⟩) : wpAny M A (eval (.Constant (.int a) k pos) env) Q E ⟨h0, gs, dr, tk, os⟩ := wpAny_Constant_int h
theorem r_str {k : Nat} {x : Str} {pos : Pos} {Q : Value → Shared → Prop} (h : Q (.str x tk) ⟨h0, gs, dr, tk + 1, os⟩) : wpAny M A (eval (.Constant (.str x) k pos) env) Q E ⟨h0, gs, dr, tk, os⟩ := wpAny_Constant_str h
theorem r_add {Q : Value → Shared → Prop} (h : Q (.int (a + b) tk) ⟨h0, gs, dr, tk + 1, os⟩) : wpAny (model prog w) A (binaryOp .Add (.int a t) (.int b u)) Q E ⟨h0, gs, dr, tk, os⟩ := PyProof.Rows.add_int h
theorem r_sub {Q : Value → Shared → Prop} (h : Q (.int (a - b) tk) ⟨h0, gs, dr, tk + 1, os⟩) : wpAny (model prog w) A (binaryOp .Sub (.int a t) (.int b u)) Q E ⟨h0, gs, dr, tk, os⟩ := PyProof.Rows.sub_int h
theorem r_mod {Q : Value → Shared → Prop} (hb : 0 < b) (h : Q (.int (a % b) tk) ⟨h0, gs, dr, tk + 1, os⟩) : wpAny (model prog w) A (binaryOp .Mod (.int a t) (.int b u)) Q E ⟨h0, gs, dr, tk, os⟩ :=
  PyProof.Rows.mod_int (by (first | lia | omega)) (by rw [Int.fmod_eq_emod_of_nonneg _ (Int.le_of_lt hb)]; exact h)
theorem r_eq {s : Shared} {Q : Value → Shared → Prop} (h : Q (.bool (decide (a = b))) s) : wpAny (model prog w) A (compareOp .Eq (.int a t) (.int b u)) Q E s :=
  PyProof.Rows.eq_int (by rw [show (a == b) = decide (a = b) from by by_cases q : a = b <;> simp [q]]; exact h)
theorem r_ne {s : Shared} {Q : Value → Shared → Prop} (h : Q (.bool (!decide (a = b))) s) : wpAny (model prog w) A (compareOp .NotEq (.int a t) (.int b u)) Q E s :=
  PyProof.Rows.ne_int (by rw [show (a != b) = !decide (a = b) from by by_cases q : a = b <;> simp [q]]; exact h)
theorem r_lt {s : Shared} {Q : Value → Shared → Prop} (h : Q (.bool (decide (a < b))) s) : wpAny (model prog w) A (compareOp .Lt (.int a t) (.int b u)) Q E s := PyProof.Rows.lt_int h
theorem r_gt {s : Shared} {Q : Value → Shared → Prop} (h : Q (.bool (decide (b < a))) s) : wpAny (model prog w) A (compareOp .Gt (.int a t) (.int b u)) Q E s := PyProof.Rows.gt_int h
theorem r_lte {s : Shared} {Q : Value → Shared → Prop} (h : Q (.bool (decide (a ≤ b))) s) : wpAny (model prog w) A (compareOp .LtE (.int a t) (.int b u)) Q E s := PyProof.Rows.le_int h
theorem r_gte {s : Shared} {Q : Value → Shared → Prop} (h : Q (.bool (decide (b ≤ a))) s) : wpAny (model prog w) A (compareOp .GtE (.int a t) (.int b u)) Q E s := PyProof.Rows.ge_int h
end
end Mine
namespace Mine

section
variable {e : Ent} {nm : List Str} {L : Addr} {g h : Heap} {vals : List (Option Value)} {news : List (Addr × Obj)}
theorem St.allN (S : St e nm L g h vals news) : News e.G L h (restOf e.G h [L]) := fun p hp => by
  obtain ⟨h1, h2, h3⟩ := mem_restOf.mp hp
  exact ⟨h3, fun q => h1 (by rw [q]; exact .head _), h2⟩
theorem St.grow' (S : St e nm L g h vals news) {h' : Heap} (hn : h'.Ns L (lkV nm vals)) (hk : ∀ b o, b ≠ L → h.get? b = some o → h'.get? b = some o) : St e nm L g h' vals news :=
  ⟨⟨fun b o q => hk b o (fun hb => (by rw [hb, S.off] at q; cases q)) (S.mem.keep b o q), fun p hp => ⟨hk _ _ (S.Ln p hp) (S.mem.hold p hp).1, (S.mem.hold p hp).2⟩, S.mem.nd, S.mem.base, fun b o q hw => hk b o (fun hb => (by rw [hb, S.Lf] at q; cases q)) (S.mem.kept b o q hw), S.mem.fresh, S.mem.own,
    fun b hb q => (by
      cases q' : h.get? b with
      | none => exact S.mem.alive b hb q'
      | some o => rw [hk _ _ (fun z => S.LW (z ▸ hb)) q'] at q; exact nomatch q), S.mem.G0⟩, hn, S.off, S.Ln, S.Gs, S.Lf, S.LW⟩
theorem St.keptAll (S : St e nm L g h vals news) {h' : Heap} {more : List (Addr × Obj)} (F : Fr e.G L h' (lkV nm vals)) (N : News e.G L h' (more ++ restOf e.G h [L])) : ∀ b o, b ≠ L → h.get? b = some o → h'.get? b = some o := by
  intro b x hL q
  cases z : e.G.get? b with
  | some y =>
    have := S.Gkeep _ _ z
    rw [q] at this
    cases this
    exact F.keep _ _ z
  | none => exact (N (b, x) (List.mem_append_right _ (mem_restOf.mpr ⟨by simp [hL], z, q⟩))).1
theorem St.newN (S : St e nm L g h vals news) {h' : Heap} {r : Addr} {o : Obj} (hr : h.get? r = none) (F : Fr e.G L h' (lkV nm vals)) (N : News e.G L h' ((r, o) :: restOf e.G h [L])) : St e nm L g h' vals ((r, o) :: news) := by
  have hk := S.keptAll (more := [(r, o)]) F N
  have S' := S.grow' F.ns hk
  obtain ⟨f1, f2, f3, f4, f5⟩ := S.nofree hr
  have ho := (N (r, o) (.head _)).1
  exact ⟨⟨S'.mem.keep, fun p hp => by
      rcases List.mem_cons.mp hp with rfl | hp
      · exact ⟨ho, f1⟩
      · exact S'.mem.hold p hp, List.nodup_cons.mpr ⟨fun q => by obtain ⟨p, hp, e⟩ := List.mem_map.mp q; exact f5 p hp e, S.mem.nd⟩, S.mem.base, S'.mem.kept, S.mem.fresh, fun p hp => by
      rcases List.mem_cons.mp hp with rfl | hp
      · exact .inr f2
      · exact S.mem.own p hp, S'.mem.alive, S.mem.G0⟩, S'.ns, S.off, fun p hp => by
      rcases List.mem_cons.mp hp with rfl | hp
      · exact f3
      · exact S.Ln p hp, S.Gs, S.Lf, S.LW⟩
end

/-! slices -/
noncomputable def sl {α : Type} (ns : List α) (x y : Int) : List α := (ns.drop x.toNat).take (y.toNat - x.toNat)
noncomputable def SlcAt (h : Heap) (a : Addr) (l u st : Value) : Prop := h.get? a = some { cls := .type "slice", data := .fields #[l, u, st] }
theorem SlcAt.le {g h a l u st} (x : SlcAt g a l u st) (k : Le g h) : SlcAt h a l u st := k _ _ x
theorem SlcAt.is {h a l u st} (x : SlcAt h a l u st) : h.IsSliceOf a l u st := ⟨_, x, rfl, rfl⟩
theorem sl_length {α : Type} (ns : List α) (x y : Int) : (sl ns x y).length = min (y.toNat - x.toNat) (ns.length - x.toNat) := by simp [sl]
theorem sl_le {α : Type} (ns : List α) (x y : Int) : (sl ns x y).length ≤ ns.length := by
  rw [sl_length]
  exact Nat.le_trans (Nat.min_le_right _ _) (Nat.sub_le _ _)
theorem pick_sl (vs : List Value) {x y : Int} (hx : 0 ≤ x) (hy : 0 ≤ y) : slicePick vs.toArray (some x) (some y) none = (sl vs x y).toArray := by
  rw [slicePick_plain]
  obtain ⟨a, rfl⟩ := Int.eq_ofNat_of_zero_le hx
  obtain ⟨b, rfl⟩ := Int.eq_ofNat_of_zero_le hy
  simp only [Option.elim, clipAt_nat, sl, Int.toNat_natCast, List.size_toArray]
  congr 1
  by_cases ha : a ≤ vs.length
  · rw [Nat.min_eq_left ha]
    by_cases hb : b ≤ vs.length
    · rw [Nat.min_eq_left hb]
    · rw [Nat.min_eq_right (by (first | lia | omega))]
      rw [List.take_of_length_le (by rw [List.length_drop]; (first | lia | omega)), List.take_of_length_le (by rw [List.length_drop]; (first | lia | omega))]
  · rw [Nat.min_eq_right (show vs.length ≤ a by (first | lia | omega)), List.drop_of_length_le (Nat.le_refl _), List.drop_of_length_le (show vs.length ≤ a by (first | lia | omega))]
    simp
theorem sl_ints {vs : List Value} {ns : List Int} (i : IntsAre vs ns) (x y : Int) : IntsAre (sl vs x y) (sl ns x y) := (i.drop _).take _

section
variable {prog : Program} {w : World} {A : Around} {E : Value → Shared → Prop} {s : Shared}
theorem setItem_slice {l sa b : Addr} {items new : List Value} {n : Nat} {vl vu : Value} {x y : Int} {Q : Unit → Shared → Prop} (hl : PySem.IsL s.heap l items.toArray n) (hs : SlcAt s.heap sa vl vu .none) (pl : IsPart vl (some x)) (pu : IsPart vu (some y))
    (hb : s.heap.IsList b new.toArray) (h0 : 0 ≤ x) (h1 : x ≤ y) (h2 : y ≤ items.length) (hz : items.length + new.length ≤ sizeLine)
    (h : Q () { s with heap := s.heap.update l (Obj.mapSeq fun xs => xs.extract 0 x.toNat ++ new.toArray ++ xs.extract y.toNat xs.size) }) : wpAny (model prog w) A (setItem (.ref l) (.ref sa) (.ref b)) Q E s := by
  have hL := hl.isList
  obtain ⟨ob, hob, hcb, nb, hdb⟩ := id hb
  obtain ⟨os, hos, hcs, hds⟩ := hs.is
  have hTs : s.TypeIs (.ref sa) "slice" := ⟨os, hos, hcs⟩
  unfold setItem
  try with_reducible refine wpAny_holding ?_
  first | refine wpAny_bind (wpAny_pure ?_) | skip
  refine wpAny_bind (wpAny_sequenceKey hL.typeIs (by decide) ?_)
  refine wpAny_bind (wpAny_callSpecial?_slot (name := Str.ofString "__setitem__") hL.typeIs slot_list_setitem
    (wpAny_call_entry slot_list_setitem hL.typeIs entry_list_setitem ?_ (args_list_setitem _ _ _)))
  show wpAny _ _ (Builtin.List.listSubscript? (.ref sa) >>= _) _ _ s
  refine wpAny_bind ?_
  unfold Builtin.List.listSubscript?
  refine wpAny_bind (wpAny_specialOf hTs slice_no_index ?_)
  simp only [Option.isNone_none, if_true]
  refine wpAny_pure ?_
  show wpAny _ _ (typeOf (.ref sa) >>= _) _ _ s
  refine wpAny_bind (wpAny_typeOf hTs ?_)
  rw [if_neg (by decide)]
  rw [listSliceParts_eq]
  refine wpAny_bind (wpAny_bind (wpAny_field hos hds (x := Value.none) rfl (wpAny_bind (wpAny_listPart .none ?_))))
  rw [if_neg (by show ¬ ((Value.none == rawInt 0) = true); exact Bool.false_ne_true)]
  refine wpAny_bind (wpAny_field hos hds (x := vl) rfl (wpAny_bind (wpAny_listPart pl ?_)))
  refine wpAny_bind (wpAny_field hos hds (x := vu) rfl (wpAny_bind (wpAny_listPart pu (wpAny_pure ?_))))
  have items_of : ∀ {Q : Array Value → Shared → Prop} {a : Addr} {its : Array Value}, s.heap.IsList a its → Q its s → wpAny (model prog w) A.in1 (Builtin.List.listItems (.ref a)) Q E s := by
    intro Q a its ⟨o, ho, _, k, hd⟩ hq
    unfold Builtin.List.listItems
    exact wpAny_bind (wpAny_seqItems ho hd (wpAny_pure hq))
  have bounds : sliceBounds (some x) (some y) none items.toArray.size = (x, y, 1) := by
    simp only [sliceBounds, List.size_toArray, Option.getD_none]
    have e1 : ¬ x < 0 := by (first | lia | omega)
    have e2 : ¬ y < 0 := by (first | lia | omega)
    have e3 : (1 : Int) > 0 := by decide
    simp only [e1, e2, e3, if_true, if_false]
    rw [Int.min_eq_left (by (first | lia | omega)), Int.min_eq_left h2, Int.max_eq_right h0, Int.max_eq_right (by (first | lia | omega))]
  dsimp only
  have hm : max x y = y := Int.max_eq_right h1
  have ey : (max x y).toNat = y.toNat := by rw [hm]
  have step : ∀ {fin : Sem Fin}, fin = (do
      Builtin.List.listUpdate (Value.ref l) fun xs => xs.extract 0 x.toNat ++ new.toArray ++ xs.extract (max x y).toNat xs.size
      letGo (items.toArray.extract x.toNat (max x y).toNat).toList.reverse
      ret Value.none) → wpAny (model prog w) A.in1 fin (fun fin s' => ∃ v, fin = Fin.done (Flow.ret v) ∧ wpAny (model prog w) A (pure ()) Q E s') E s := by
    rintro _ rfl
    rw [ey]
    have hx : (items.toArray.extract 0 x.toNat ++ new.toArray ++ items.toArray.extract y.toNat items.toArray.size).size ≤ items.length + new.length := by
      simp only [Array.size_append, Array.size_extract, List.size_toArray]
      have hy : y.toNat ≤ items.length := Int.toNat_le.mpr h2
      rw [Nat.sub_zero, Nat.min_self]
      refine Nat.le_trans (Nat.add_le_add_right (Nat.add_le_add_right (Nat.le_trans (Nat.min_le_left _ _) (Int.toNat_le_toNat h1)) _) _) ?_
      exact Nat.le_of_eq (by rw [Nat.add_right_comm, Nat.add_sub_cancel' hy])
    refine wpAny_bind (wpAny_updateSeq hl rfl ?_ (by rw [List.size_toArray]; (first | lia | omega)) (by (first | lia | omega)))
    exact wpAny_bind (wpAny_letGo (wpAny_pure ⟨_, rfl, wpAny_pure h⟩))
  split
  · refine wpAny_bind (items_of hb (wpAny_bind (items_of hL (wpAny_bind (wpAny_of_eq (sliceIndices_raw (some x) (some y) none items.toArray.size (by simp)) ?_)))))
    rw [bounds]
    dsimp only
    rw [if_pos (by decide)]
    refine wpAny_bind (wpAny_rule ?_)
    rw [if_neg (by simp only [Builtin.List.listTooLong, List.size_toArray, decide_eq_true_eq]; (first | lia | omega))]
    exact step rfl
  · unfold Builtin.List.listAllItems
    refine wpAny_bind (wpAny_bind (wpAny_typeOf hb.typeIs ?_))
    rw [if_pos (by decide)]
    refine items_of hb (wpAny_bind (items_of hL (wpAny_bind (wpAny_of_eq (sliceIndices_raw (some x) (some y) none items.toArray.size (by simp)) ?_))))
    rw [bounds]
    dsimp only
    rw [if_pos (by decide)]
    refine wpAny_bind (wpAny_rule ?_)
    rw [if_neg (by simp only [Builtin.List.listTooLong, List.size_toArray, decide_eq_true_eq]; (first | lia | omega))]
    exact step rfl
end

section
variable {K : Frag} {mg mb : Str → Option Value} {prog : Program} {w : World} {A : Around} {E : Value → Shared → Prop} {h0 : Heap} {gs : Array GenState} {dr : Drawn} {tk : Nat} {os : OsState} {e : Ent} {nm gl : List Str} {L a : Addr} {g : Heap} {vals vals' : List (Option Value)} {news : List (Addr × Obj)} {cn : Str} {cs : Scope} {cd : Value}
theorem IntsO.slc {o : Obj} {ns ms : List Int} {new : List Value} (hl : IntsO o ns) (hi : IntsAre new ms) (x y : Nat) : IntsO (Obj.mapSeq (fun xs => xs.extract 0 x ++ new.toArray ++ xs.extract y xs.size) o) (ns.take x ++ ms ++ ns.drop y) := by
  obtain ⟨vs, ⟨n, rfl⟩, i⟩ := hl
  have e1 : (vs.toArray.extract 0 x ++ new.toArray ++ vs.toArray.extract y vs.toArray.size) = (vs.take x ++ new ++ vs.drop y).toArray := by
    apply Array.toList_inj.mp
    simp only [Array.toList_append, Array.toList_extract, List.extract_eq_take_drop, Nat.sub_zero, List.drop_zero, List.size_toArray]
    rw [List.take_of_length_le (show (List.drop y vs).length ≤ vs.length - y by rw [List.length_drop]; (first | lia | omega))]
  refine ⟨vs.take x ++ new ++ vs.drop y, ⟨if ((vs.toArray.extract 0 x ++ new.toArray ++ vs.toArray.extract y vs.toArray.size).size == vs.toArray.size) = true then n else n + 1, ?_⟩, ((i.take x).append hi).append (i.drop y)⟩
  · show Obj.mk _ _ (Data.seq (vs.toArray.extract 0 x ++ new.toArray ++ vs.toArray.extract y vs.toArray.size) _) _ = _
    simp only [e1]
theorem r_setslice {put : Obj → List (Addr × Obj)} {d sa b : Addr} {o : Obj} {ns ms : List Int} {vl vu : Value} {x y : Int} {Q : Unit → Shared → Prop} (S : St e nm L g h0 vals news) (hl : IntsO o ns) (u : ∀ o', Upd1 d o o' news (put o')) (hs : SlcAt h0 sa vl vu .none) (pl : IsPart vl (some x)) (pu : IsPart vu (some y)) (hb : IntsAt h0 b ms)
    (hx : 0 ≤ x ∧ x ≤ y ∧ y ≤ ns.length ∧ ns.length + ms.length ≤ 2 ^ 20)
    (h : ∀ h' o', IntsO o' (ns.take x.toNat ++ ms ++ ns.drop y.toNat) → St e nm L g h' vals (put o') → Q () ⟨h', gs, dr, tk, os⟩) : wpAny (model prog w) A (setItem (.ref d) (.ref sa) (.ref b)) Q E ⟨h0, gs, dr, tk, os⟩ := by
  have hm := S.at (u o).mem
  obtain ⟨new, hbl, hbi⟩ := hb.lst
  have hl' := hl
  obtain ⟨vs, ⟨n, rfl⟩, i⟩ := hl
  have e1 := i.length
  have e2 := hbi.length
  refine setItem_slice (n := n) (hl := hm) hs pl pu hbl.isList hx.1 hx.2.1 (by (first | lia | omega)) (by rw [sizeLine_eq]; (first | lia | omega)) ?_
  exact h _ _ (hl'.slc hbi x.toNat y.toNat) (S.upd (u _) (Heap.SameBut.update ..) (Heap.get?_update_self _ hm rfl))

theorem r_subslice {l sa : Addr} {ns : List Int} {vl vu : Value} {x y : Int} {value slice : Expr} {ops : List Value} {Q : Value → Shared → Prop} (S : St e nm L g h0 vals news) (hl : IntsAt h0 l ns) (hs : SlcAt h0 sa vl vu .none) (pl : IsPart vl (some x)) (pu : IsPart vu (some y))
    (hx : 0 ≤ x ∧ 0 ≤ y ∧ ns.length ≤ 2 ^ 20)
    (h : ∀ r h' g', Le g g' → IntsAt g' r (sl ns x y) → St e nm L g' h' vals news → Q (.ref r) ⟨h', gs, dr, tk, os⟩)
    (hsub : subscripted slice false (.ref l) (.ref sa) = operate ops (getItem (.ref l) (.ref sa)) := by with_unfolding_all rfl) : wpAny (model prog w) A (subscriptTail value slice (.ref l) (.ref sa)) Q E ⟨h0, gs, dr, tk, os⟩ := by
  obtain ⟨vs, hv, hi⟩ := hl.lst
  have e1 := hi.length
  obtain ⟨g', k1, k2, k3⟩ := S.pushI { cls := .type "list", data := .seq (sl vs x y).toArray } rfl
  refine tail_any hv.isList.typeIs slot_list_getitem.lookup (wpAny_getItem_list_slice hv.isList hs.is pl pu .none (by simp) ?_ (by rw [List.size_toArray, sizeLine_eq]; (first | lia | omega))) hsub
  rw [pick_sl vs hx.1 hx.2.1]
  exact h _ _ g' k1 ⟨_, k2, _, ⟨0, rfl⟩, sl_ints hi x y⟩ k3

noncomputable def SlcK (Q : Value → Shared → Prop) (l u st : Value) (s : Shared) : Prop := Q (.ref s.heap.objs.size) { s with heap := s.heap.push { cls := .type "slice", data := .fields #[l, u, st] } }
theorem r_slice {M : Model} {env : Env} {lower upper step : Option Expr} {p : Pos} {s : Shared} {Q : Value → Shared → Prop} (h : wpAny M A (evalPart lower env) (fun l s₁ => wpAny M A (evalPart upper env) (fun u s₂ => wpAny M A (evalPart step env) (SlcK Q l u) E s₂) E s₁) E s) : wpAny M A (eval (.Slice lower upper step p) env) Q E s := wpAny_Slice h
theorem r_slck {l u st : Value} {Q : Value → Shared → Prop} (S : St e nm L g h0 vals news) (h : ∀ r h' g', Le g g' → SlcAt g' r l u st → St e nm L g' h' vals news → Q (.ref r) ⟨h', gs, dr, tk, os⟩) : SlcK Q l u st ⟨h0, gs, dr, tk, os⟩ := by
  obtain ⟨g', k1, k2, k3⟩ := S.pushI { cls := .type "slice", data := .fields #[l, u, st] } rfl
  exact h _ _ g' k1 k2 k3

theorem r_item {l : Addr} {vs : List Value} {k : Int} {u : Tok} {v : Value} {s : Shared} {value slice : Expr} {ops : List Value} {Q : Value → Shared → Prop} (hl : LstAt s.heap l vs) (hk : 0 ≤ k ∧ k < 2 ^ 62) (hv : vs[k.toNat]? = some v) (h : Q v s)
    (hsub : subscripted slice false (.ref l) (.int k u) = operate ops (getItem (.ref l) (.int k u)) := by with_unfolding_all rfl) : wpAny (model prog w) A (subscriptTail value slice (.ref l) (.int k u)) Q E s :=
  tail_any hl.isList.typeIs slot_list_getitem.lookup (wpAny_getItem_list hl.isList hk.1 (by (first | lia | omega)) (by simpa using hv) h) hsub
theorem r_itemI {l : Addr} {ns : List Int} {k : Int} {u : Tok} {s : Shared} {value slice : Expr} {ops : List Value} {Q : Value → Shared → Prop} (hl : IntsAt s.heap l ns) (hk : 0 ≤ k ∧ k < ns.length ∧ ns.length < 2 ^ 62) (h : ∀ t, Q (.int (ns.getD k.toNat 0) t) s)
    (hsub : subscripted slice false (.ref l) (.int k u) = operate ops (getItem (.ref l) (.int k u)) := by with_unfolding_all rfl) : wpAny (model prog w) A (subscriptTail value slice (.ref l) (.int k u)) Q E s := by
  obtain ⟨vs, hv, hi⟩ := hl.lst
  have hj : ns[k.toNat]? = some (ns.getD k.toNat 0) := by
    rw [List.getD_eq_getElem?_getD, List.getElem?_eq_getElem (show k.toNat < ns.length by (first | lia | omega))]; rfl
  obtain ⟨t, ht⟩ := hi.get _ _ hj
  exact r_item hv ⟨hk.1, by (first | lia | omega)⟩ ht (h t) hsub
theorem r_itemT {l : Addr} {vs : List Value} {k : Int} {u : Tok} {v : Value} {s : Shared} {value slice : Expr} {ops : List Value} {Q : Value → Shared → Prop} (hl : TupAt s.heap l vs) (hk : 0 ≤ k ∧ k < 2 ^ 62) (hv : vs[k.toNat]? = some v) (h : Q v s)
    (hsub : subscripted slice false (.ref l) (.int k u) = operate ops (getItem (.ref l) (.int k u)) := by with_unfolding_all rfl) : wpAny (model prog w) A (subscriptTail value slice (.ref l) (.int k u)) Q E s := by
  have hlt := (List.getElem?_eq_some_iff.mp hv).1
  exact tail_any hl.isTup.typeIs slot_tuple_getitem.lookup (getItem_tuple hl.isTup (by (first | lia | omega)) (by (first | lia | omega)) (j := k.toNat) (by rw [List.size_toArray]; exact seqIndex_of hk.1 (by (first | lia | omega))) (by simpa using hv) h) hsub

theorem r_addI {l m : Addr} {ns ms : List Int} {Q : Value → Shared → Prop} (S : St e nm L g h0 vals news) (hl : IntsAt h0 l ns) (hm : IntsAt h0 m ms) (hz : ns.length + ms.length ≤ 2 ^ 20)
    (h : ∀ r h' o, IntsO o (ns ++ ms) → St e nm L g h' vals ((r, o) :: news) → Q (.ref r) ⟨h', gs, dr, tk, os⟩) : wpAny (model prog w) A (binaryOp .Add (.ref l) (.ref m)) Q E ⟨h0, gs, dr, tk, os⟩ := by
  obtain ⟨vs, hv, hi⟩ := hl.lst
  obtain ⟨us, hu, hi'⟩ := hm.lst
  obtain ⟨n, q1⟩ := hv.isL
  obtain ⟨n', q2⟩ := hu.isL
  have e1 := hi.length
  have e2 := hi'.length
  refine PySem.P.add_list (s := ⟨h0, gs, dr, tk, os⟩) q1 q2 ?_ (by rw [List.size_toArray, List.size_toArray, sizeLine_eq]; (first | lia | omega))
  refine h _ _ _ ?_ (S.push _ rfl)
  exact ⟨vs ++ us, ⟨0, by simp⟩, hi.append hi'⟩
theorem r_addIm {l m : Addr} {ns ms : List Int} {Q : Value → Shared → Prop} (S : St e nm L g h0 vals news) (hl : IntsAt h0 l ns) (hm : IntsAt h0 m ms) (hz : ns.length + ms.length ≤ 2 ^ 20)
    (h : ∀ r h' g', Le g g' → IntsAt g' r (ns ++ ms) → St e nm L g' h' vals news → Q (.ref r) ⟨h', gs, dr, tk, os⟩) : wpAny (model prog w) A (binaryOp .Add (.ref l) (.ref m)) Q E ⟨h0, gs, dr, tk, os⟩ := by
  obtain ⟨vs, hv, hi⟩ := hl.lst
  obtain ⟨us, hu, hi'⟩ := hm.lst
  obtain ⟨n, q1⟩ := hv.isL
  obtain ⟨n', q2⟩ := hu.isL
  have e1 := hi.length
  have e2 := hi'.length
  obtain ⟨g', k1, k2, k3⟩ := S.pushI { cls := .type "list", data := .seq (vs.toArray ++ us.toArray) } rfl
  refine PySem.P.add_list (s := ⟨h0, gs, dr, tk, os⟩) q1 q2 ?_ (by rw [List.size_toArray, List.size_toArray, sizeLine_eq]; (first | lia | omega))
  exact h _ _ g' k1 ⟨_, k2, vs ++ us, ⟨0, by simp⟩, hi.append hi'⟩ k3
theorem r_addL {l m : Addr} {vs us : List Value} {Q : Value → Shared → Prop} (S : St e nm L g h0 vals news) (hl : LstAt h0 l vs) (hm : LstAt h0 m us) (hz : vs.length + us.length ≤ 2 ^ 20)
    (h : ∀ r h' o, LstO o (vs ++ us) → St e nm L g h' vals ((r, o) :: news) → Q (.ref r) ⟨h', gs, dr, tk, os⟩) : wpAny (model prog w) A (binaryOp .Add (.ref l) (.ref m)) Q E ⟨h0, gs, dr, tk, os⟩ := by
  obtain ⟨n, q1⟩ := hl.isL
  obtain ⟨n', q2⟩ := hm.isL
  refine PySem.P.add_list (s := ⟨h0, gs, dr, tk, os⟩) q1 q2 ?_ (by rw [List.size_toArray, List.size_toArray, sizeLine_eq]; (first | lia | omega))
  exact h _ _ _ ⟨0, by simp⟩ (S.push _ rfl)
theorem foldl_rep (its : List Value) : ∀ (k : Nat) (acc : Array Value), List.foldl (fun x1 x2 => x1 ++ x2) acc (List.replicate k its.toArray) = (acc.toList ++ (List.replicate k its).flatten).toArray
  | 0, acc => by simp
  | k + 1, acc => by
    rw [List.replicate_succ, List.foldl_cons, foldl_rep its k]
    simp [List.replicate_succ]
theorem ints_rep {vs : List Value} {ns : List Int} (i : IntsAre vs ns) : ∀ k : Nat, IntsAre (List.replicate k vs).flatten (List.replicate k ns).flatten
  | 0 => .nil
  | k + 1 => by simp only [List.replicate_succ, List.flatten_cons]; exact i.append (ints_rep i k)
theorem r_mulI {l : Addr} {ns : List Int} {x : Int} {u : Tok} {Q : Value → Shared → Prop} (S : St e nm L g h0 vals news) (hl : IntsAt h0 l ns) (hx : 0 ≤ x ∧ x ≤ 2 ^ 10 ∧ 1 ≤ ns.length ∧ ns.length ≤ 2 ^ 10)
    (h : ∀ r h' o, IntsO o (List.replicate x.toNat ns).flatten → St e nm L g h' vals ((r, o) :: news) → Q (.ref r) ⟨h', gs, dr, tk, os⟩) : wpAny (model prog w) A (binaryOp .Mult (.ref l) (.int x u)) Q E ⟨h0, gs, dr, tk, os⟩ := by
  obtain ⟨vs, hv, hi⟩ := hl.lst
  obtain ⟨n, q1⟩ := hv.isL
  have e1 := hi.length
  have hz : vs.length * x.toNat ≤ 2 ^ 10 * 2 ^ 10 := Nat.mul_le_mul (by (first | lia | omega)) (by (first | lia | omega))
  refine PyProof.Rows.mul_list (s := ⟨h0, gs, dr, tk, os⟩) S.fr S.allN q1 (by (first | lia | omega)) (by (first | lia | omega)) (by rw [List.size_toArray]; (first | lia | omega)) fun h' F' N' => ?_
  refine h _ _ _ ?_ (S.newN (get_none_size h0) F' N')
  have hne : ¬ (vs.toArray.isEmpty = true) := by
    intro q
    have : vs = [] := by simpa using q
    rw [this] at e1; simp at e1; (first | lia | omega)
  rw [if_neg hne, foldl_rep]
  exact ⟨(List.replicate x.toNat vs).flatten, ⟨0, by simp⟩, ints_rep hi _⟩
theorem r_mulIm {l : Addr} {ns : List Int} {x : Int} {u : Tok} {Q : Value → Shared → Prop} (S : St e nm L g h0 vals news) (hl : IntsAt h0 l ns) (hx : 0 ≤ x ∧ x ≤ 2 ^ 10 ∧ 1 ≤ ns.length ∧ ns.length ≤ 2 ^ 10)
    (h : ∀ r h' g', Le g g' → IntsAt g' r (List.replicate x.toNat ns).flatten → St e nm L g' h' vals news → Q (.ref r) ⟨h', gs, dr, tk, os⟩) : wpAny (model prog w) A (binaryOp .Mult (.ref l) (.int x u)) Q E ⟨h0, gs, dr, tk, os⟩ := by
  obtain ⟨vs, hv, hi⟩ := hl.lst
  obtain ⟨n, q1⟩ := hv.isL
  have e1 := hi.length
  have hz : vs.length * x.toNat ≤ 2 ^ 10 * 2 ^ 10 := Nat.mul_le_mul (by (first | lia | omega)) (by (first | lia | omega))
  refine PyProof.Rows.mul_list (s := ⟨h0, gs, dr, tk, os⟩) S.fr S.allN q1 (by (first | lia | omega)) (by (first | lia | omega)) (by rw [List.size_toArray]; (first | lia | omega)) fun h' F' N' => ?_
  obtain ⟨g', k1, k2, k3⟩ := (S.newN (get_none_size h0) F' N').freeze (S.nofree (get_none_size h0)).2.1
  refine h _ _ g' k1 ⟨_, k2, ?_⟩ k3
  have hne : ¬ (vs.toArray.isEmpty = true) := by
    intro q
    have : vs = [] := by simpa using q
    rw [this] at e1; simp at e1; (first | lia | omega)
  rw [if_neg hne, foldl_rep]
  exact ⟨(List.replicate x.toNat vs).flatten, ⟨0, by simp⟩, ints_rep hi _⟩
theorem r_mul1 {l : Addr} {v x : Int} {u : Tok} {Q : Value → Shared → Prop} (S : St e nm L g h0 vals news) (hl : IntsAt h0 l [v]) (hx : 0 ≤ x ∧ x ≤ 2 ^ 10)
    (h : ∀ r h' g', Le g g' → IntsAt g' r (List.replicate x.toNat v) → St e nm L g' h' vals news → Q (.ref r) ⟨h', gs, dr, tk, os⟩) : wpAny (model prog w) A (binaryOp .Mult (.ref l) (.int x u)) Q E ⟨h0, gs, dr, tk, os⟩ :=
  r_mulIm S hl ⟨hx.1, hx.2, Nat.le_refl _, by simp⟩ fun r h' g' k1 k2 k3 => h r h' g' k1 (by
    have e1 : ∀ k : Nat, (List.replicate k [v]).flatten = List.replicate k v := fun k => by
      induction k with
      | zero => rfl
      | succ k ih => rw [List.replicate_succ, List.flatten_cons, ih, List.replicate_succ]; rfl
    rwa [e1] at k2) k3
theorem r_intsI {ns : List Int} {vs : List Value} {Q : Value → Shared → Prop} (S : St e nm L g h0 vals news) (hi : IntsAre vs ns) (hz : vs.length ≤ 1000)
    (h : ∀ r h' g', Le g g' → IntsAt g' r ns → St e nm L g' h' vals news → Q (.ref r) ⟨h', gs, dr, tk, os⟩) : wpAny (model prog w) A (newList vs) Q E ⟨h0, gs, dr, tk, os⟩ :=
  r_listI S (fun r h' g' k1 k2 k3 => h r h' g' k1 (k2.ints hi) k3) (by rw [sizeLine_eq]; (first | lia | omega))
end
end Mine
namespace Mine

/-! own objects -/
inductive AttrEs (P : Params) : List Str → List Value → List DictEntry → Prop
  | nil : AttrEs P [] [] []
  | cons {x : Str} {v : Value} {t : Tok} {ns vs es} : AttrEs P ns vs es → AttrEs P (x :: ns) (v :: vs) (⟨PyData.keyHash P x, .str x t, v⟩ :: es)
inductive VAt : List Str → List Value → Str → Value → Prop
  | here {x ns v vs} : VAt (x :: ns) (v :: vs) x v
  | there {x n ns o v vs} : VAt ns vs x v → VAt (n :: ns) (o :: vs) x v
inductive VSet : List Str → List Value → Str → Value → List Value → Prop
  | here {x ns o v vs} : VSet (x :: ns) (o :: vs) x v (v :: vs)
  | there {x n ns o v vs vs'} : VSet ns vs x v vs' → VSet (n :: ns) (o :: vs) x v (o :: vs')
theorem VAt.mem {ns vs x v} (h : VAt ns vs x v) : x ∈ ns := by
  induction h with
  | here => exact .head _
  | there _ ih => exact .tail _ ih
theorem VSet.mem {ns vs x v vs'} (h : VSet ns vs x v vs') : x ∈ ns := by
  induction h with
  | here => exact .head _
  | there _ ih => exact .tail _ ih
noncomputable def AttrsO (P : Params) (o : Obj) (nm : List Str) (vs : List Value) : Prop := ∃ es n, o = dictOf es n ∧ AttrEs P nm vs es
noncomputable def AttrsAt (P : Params) (h : Heap) (a : Addr) (nm : List Str) (vs : List Value) : Prop := ∃ o, h.get? a = some o ∧ AttrsO P o nm vs
theorem AttrsAt.le {P g h a nm vs} (x : AttrsAt P g a nm vs) (k : Le g h) : AttrsAt P h a nm vs := let ⟨o, q, r⟩ := x; ⟨o, k _ _ q, r⟩
noncomputable def Inst (h : Heap) (x C dx : Addr) : Prop := h.get? x = some (instObj C dx)
theorem Inst.le {g h x C dx} (k : Inst g x C dx) (l : Le g h) : Inst h x C dx := l _ _ k
theorem isStr_str (x y : Str) (t : Tok) : (Value.str x t).isStr y = (x == y) := rfl
theorem AttrEs.noref {P ns vs es} (h : AttrEs P ns vs es) : es.any (·.refKey) = false := by
  induction h with
  | nil => rfl
  | cons _ ih => rw [List.any_cons, ih]; rfl
theorem AttrEs.miss {P ns vs es} (h : AttrEs P ns vs es) {x : Str} (hx : x ∉ ns) : es.find? (·.key.isStr x) = none := by
  induction h with
  | nil => rfl
  | @cons y v t ns vs es h ih =>
    simp only [List.mem_cons, not_or] at hx
    rw [List.find?_cons_of_neg (by show ¬ ((y == x) = true); simpa using Ne.symm hx.1)]
    exact ih hx.2
theorem AttrEs.getNone {P ns vs es} (h : AttrEs P ns vs es) {x : Str} (hx : x ∉ ns) : getL x es = some none := by
  unfold getL
  rw [h.miss hx, h.noref]; rfl
theorem AttrEs.get {P ns vs es} (h : AttrEs P ns vs es) {x : Str} {v : Value} (nd : ns.Nodup) (a : VAt ns vs x v) : getL x es = some (some v) := by
  have : ∃ e, es.find? (·.key.isStr x) = some e ∧ e.val = v := by
    induction h with
    | nil => cases a
    | @cons y u t ns vs es h ih =>
      have hn := List.nodup_cons.mp nd
      cases a with
      | here => exact ⟨_, List.find?_cons_of_pos (by show (x == x) = true; simp), rfl⟩
      | there a =>
        have hne : y ≠ x := fun q => hn.1 (q ▸ a.mem)
        rw [List.find?_cons_of_neg (by show ¬ ((y == x) = true); simpa using hne)]
        exact ih hn.2 a
  obtain ⟨e, h1, h2⟩ := this
  unfold getL
  rw [h1, ← h2]
theorem AttrEs.set {P ns vs vs' es} (h : AttrEs P ns vs es) {x : Str} {v : Value} {hs : Int} {k : Value} (nd : ns.Nodup) (a : VSet ns vs x v vs') : AttrEs P ns vs' (putL x hs k v es) := by
  induction h generalizing vs' with
  | nil => cases a
  | @cons y u t ns vs es h ih =>
    have hn := List.nodup_cons.mp nd
    cases a with
    | here =>
      unfold putL
      rw [if_pos (by show (x == x) = true; simp)]
      exact .cons h
    | there a =>
      have hne : y ≠ x := fun q => hn.1 (q ▸ a.mem)
      unfold putL
      rw [if_neg (by show ¬ ((y == x) = true); simpa using hne)]
      exact .cons (ih hn.2 a)
theorem AttrEs.app {P ns vs es} (h : AttrEs P ns vs es) {x : Str} {v : Value} {t : Tok} (hx : x ∉ ns) : AttrEs P (ns ++ [x]) (vs ++ [v]) (putL x (PyData.keyHash P x) (.str x t) v es) := by
  induction h with
  | nil => exact .cons .nil
  | @cons y u t' ns vs es h ih =>
    simp only [List.mem_cons, not_or] at hx
    unfold putL
    rw [if_neg (by show ¬ ((y == x) = true); simpa using Ne.symm hx.1)]
    exact .cons (ih hx.2)
theorem AttrEs.len {P ns vs es} (h : AttrEs P ns vs es) : es.length = ns.length := by
  induction h with
  | nil => rfl
  | cons _ ih => simp [ih]

structure ClsOk (K : Frag) (C : Addr) (nm : List Str) : Prop where
  get : plainGet K C "" = true
  dict : hasDictIn K C = true
  sets : findIn K (.ref C) "__setattr__" = some (some (.builtin "object.__setattr__"))
  over : plainOver K C = true
  none : ∀ x ∈ nm, findIn K (.ref C) x = some none
  nd : nm.Nodup
  few : nm.length ≤ 100
structure MethIs (K : Frag) (C : Addr) (nm : List Str) (name : Str) (f : Addr) : Prop where
  find : findIn K (.ref C) name = some (some (.ref f))
  fn : isFn K (.ref f) = true
  off : name ∉ nm
structure MakesOk (K : Frag) (C fI : Addr) : Prop where
  makes : makesIn K C = true
  init : findIn K (.ref C) "__init__" = some (some (.ref fI))
  fn : isFn K (.ref fI) = true

section
variable {K : Frag} {mg mb : Str → Option Value} {prog : Program} {w : World} {A : Around} {E : Value → Shared → Prop} {h0 : Heap} {gs : Array GenState} {dr : Drawn} {tk : Nat} {os : OsState} {e : Ent} {nm gl : List Str} {L a : Addr} {g h : Heap} {vals vals' : List (Option Value)} {news : List (Addr × Obj)} {cn : Str} {cs : Scope} {cd : Value} {P : Params}
theorem St.attrs (S : St e nm L g h vals news) {o : Obj} {nm' : List Str} {avs : List Value} (hm : (a, o) ∈ news) (x : AttrsO P o nm' avs) : AttrsAt P h a nm' avs := ⟨o, S.at hm, x⟩
theorem r_get {x C dx : Addr} {nm' : List Str} {avs : List Value} {name : Str} {v : Value} {ex : Bool} {Q : Value → Shared → Prop} (S : St e nm L g h0 vals news) (B : Base K e.G mg mb) (co : ClsOk K C nm') (hx : Inst h0 x C dx) (hd : AttrsAt w.params h0 dx nm' avs) (ha : VAt nm' avs name v) (hv : handedIn v = true)
    (h : Q v ⟨h0, gs, dr, tk + 1, os⟩) : wpAny (model prog w) A (getAttr (.ref x) name ex) Q E ⟨h0, gs, dr, tk, os⟩ := by
  obtain ⟨o, ho, es, n, rfl, he⟩ := hd
  have I : InstAt h0 x (instObj C dx) C (some (dictOf es n)) := ⟨hx, rfl, rfl, ho⟩
  exact get_own (s := ⟨h0, gs, dr, tk, os⟩) S.fr B.X I co.get co.dict (co.none _ ha.mem) rfl (he.get co.nd ha) hv h
theorem r_meth {x C dx f : Addr} {nm' : List Str} {avs : List Value} {name : Str} {pl : Sem Bool} {Q : Value × List Value → Shared → Prop} (S : St e nm L g h0 vals news) (B : Base K e.G mg mb) (co : ClsOk K C nm') (hx : Inst h0 x C dx) (hd : AttrsAt w.params h0 dx nm' avs) (hm : MethIs K C nm' name f)
    (h : Q (.ref f, [.ref x]) ⟨h0, gs, dr, tk, os⟩) : wpAny (model prog w) A (getMethod (.ref x) name pl) Q E ⟨h0, gs, dr, tk, os⟩ := by
  obtain ⟨o, ho, es, n, rfl, he⟩ := hd
  have I : InstAt h0 x (instObj C dx) C (some (dictOf es n)) := ⟨hx, rfl, rfl, ho⟩
  exact method_inst (s := ⟨h0, gs, dr, tk, os⟩) S.fr B.X I co.get hm.find hm.fn (he.getNone hm.off) h
theorem set_core {put : Obj → List (Addr × Obj)} {x C dx : Addr} {nm' : List Str} {es es' : List DictEntry} {n : Nat} {name : Str} {v : Value} {Q : Unit → Shared → Prop} (S : St e nm L g h0 vals news) (B : Base K e.G mg mb) (co : ClsOk K C nm') (hx : Inst h0 x C dx) (u : ∀ o', Upd1 dx (dictOf es n) o' news (put o')) (hn : name ∈ nm')
    (hl : (getL name es).isSome = true) (he : putL name (PyData.keyHash w.params name) (.str name (tk + 1)) v es = es') (hz : es'.length ≤ 1000)
    (h : ∀ h' n', St e nm L g h' vals (put (dictOf es' n')) → Q () ⟨h', gs, dr, tk + 2, os⟩) : wpAny (model prog w) A (setAttr (.ref x) name v) Q E ⟨h0, gs, dr, tk, os⟩ := by
  have ho := S.at (u default).mem
  have I : InstAt h0 x (instObj C dx) C (some (dictOf es n)) := ⟨hx, rfl, rfl, ho⟩
  have ht : takerIn K C name = some none := by
    unfold takerIn
    rw [co.none _ hn]; rfl
  exact set_dict (s := ⟨h0, gs, dr, tk, os⟩) S.fr B.X (S.nwAll (u default).mem) I rfl co.sets co.over ht co.dict hl (Prod.ext he rfl) (.head fun p hp => fun q => (mem_restOf.mp hp).1 (by rw [q]; simp)) hz
    (fun h' F' N' => h h' _ (S.backAll (u _) F' N'))
theorem r_set {put : Obj → List (Addr × Obj)} {x C dx : Addr} {nm' : List Str} {avs avs' : List Value} {o : Obj} {name : Str} {v : Value} {Q : Unit → Shared → Prop} (S : St e nm L g h0 vals news) (B : Base K e.G mg mb) (co : ClsOk K C nm') (hx : Inst h0 x C dx) (u : ∀ o', Upd1 dx o o' news (put o')) (ho : AttrsO w.params o nm' avs) (ha : VSet nm' avs name v avs')
    (h : ∀ h' o', AttrsO w.params o' nm' avs' → St e nm L g h' vals (put o') → Q () ⟨h', gs, dr, tk + 2, os⟩) : wpAny (model prog w) A (setAttr (.ref x) name v) Q E ⟨h0, gs, dr, tk, os⟩ := by
  obtain ⟨es, n, rfl, he⟩ := ho
  have he' := he.set (hs := PyData.keyHash w.params name) (k := .str name (tk + 1)) co.nd ha
  have hv : (getL name es).isSome = true := by
    have : ∃ u, VAt nm' avs name u := by
      clear h he he' u
      induction ha with
      | here => exact ⟨_, .here⟩
      | there _ ih => obtain ⟨u, q⟩ := ih ⟨co.get, co.dict, co.sets, co.over, fun x hx => co.none x (.tail _ hx), (List.nodup_cons.mp co.nd).2, by have := co.few; simp only [List.length_cons] at this; (first | lia | omega)⟩; exact ⟨u, .there q⟩
    obtain ⟨u, q⟩ := this
    rw [he.get co.nd q]; rfl
  exact set_core S B co hx u ha.mem hv rfl (by rw [he'.len]; have := co.few; (first | lia | omega)) fun h' n' S' => h h' _ ⟨_, n', rfl, he'⟩ S'
theorem r_setN {put : Obj → List (Addr × Obj)} {x C dx : Addr} {nm' nm1 rest : List Str} {avs : List Value} {o : Obj} {name : Str} {v : Value} {Q : Unit → Shared → Prop} (S : St e nm L g h0 vals news) (B : Base K e.G mg mb) (co : ClsOk K C nm') (hx : Inst h0 x C dx) (u : ∀ o', Upd1 dx o o' news (put o')) (ho : AttrsO w.params o nm1 avs) (hn : nm' = nm1 ++ name :: rest)
    (h : ∀ h' o', AttrsO w.params o' (nm1 ++ [name]) (avs ++ [v]) → St e nm L g h' vals (put o') → Q () ⟨h', gs, dr, tk + 2, os⟩) : wpAny (model prog w) A (setAttr (.ref x) name v) Q E ⟨h0, gs, dr, tk, os⟩ := by
  obtain ⟨es, n, rfl, he⟩ := ho
  have hoff : name ∉ nm1 := fun q => by
    have nd := co.nd
    rw [hn, List.nodup_append] at nd
    exact nd.2.2 name q name (.head _) rfl
  have he' := he.app (t := tk + 1) (v := v) hoff
  refine set_core S B co hx u (by rw [hn]; simp) (by rw [he.getNone hoff]; rfl) rfl ?_ fun h' n' S' => h h' _ ⟨_, n', rfl, he'⟩ S'
  have := co.few
  rw [he'.len]
  rw [hn] at this
  simp only [List.length_append, List.length_cons, List.length_nil] at this ⊢
  (first | lia | omega)

theorem r_make {C fI : Addr} {n m : Nat} {args : List Value} {W rest : List (Addr × Obj)} {Post : Addr → Addr → Heap → List (Addr × Obj) → Prop} {Q : Value → Shared → Prop} (S : St e nm L g h0 vals news) (B : Base K e.G mg mb) (hp : news.Perm (W ++ rest)) (mk : MakesOk K C fI)
    (c : ∀ x dx H g1, Le g g1 → Inst g1 x C dx → Fn prog w (.ref fI) n (.ref x :: args) e.G H g1 ((dx, dictOf [] 0) :: W) (fun v g' W' => v = .none ∧ Post x dx g' W')) (R : Room A m) (hm : n + 1 ≤ m)
    (k : ∀ x dx h' tk' g' W', Le g g' → Inst g' x C dx → St e nm L g' h' vals (W' ++ rest) → Post x dx g' W' → Q (.ref x) ⟨h', gs, dr, tk', os⟩) : wpAny (model prog w) A (call (.ref C) args) Q E ⟨h0, gs, dr, tk, os⟩ := by
  refine call_cls (s := ⟨h0, gs, dr, tk, os⟩) S.fr B.X S.allN mk.makes mk.init mk.fn fun x dx h1 F1 N1 l1 l2 => ?_
  have hk := S.keptAll (more := [(x, instObj C dx), (dx, dictOf [] 0)]) F1 N1
  have fresh : ∀ r o, (r, o) ∈ [(x, instObj C dx), (dx, dictOf [] 0)] → h0.get? r = none := fun r o hr => by
    have n1 := N1 (r, o) (List.mem_append_left _ hr)
    cases z : h0.get? r with
    | none => rfl
    | some y =>
      exfalso
      have hG : e.G.get? r = none := n1.2.2
      have hin : (r, y) ∈ restOf e.G h0 [L] := mem_restOf.mpr ⟨fun q => n1.2.1 (List.mem_singleton.mp q), hG, z⟩
      have hlt : r < dx := l1 _ hin
      simp only [List.mem_cons, Prod.mk.injEq, List.not_mem_nil, or_false] at hr
      rcases hr with ⟨rfl, _⟩ | ⟨rfl, _⟩
      · exact absurd (Nat.lt_trans hlt l2) (Nat.lt_irrefl _)
      · exact absurd hlt (Nat.lt_irrefl _)
  have hx0 := fresh x _ (.head _)
  have hd0 := fresh dx _ (.tail _ (.head _))
  have S1 : St e nm L g h1 vals news := S.grow' F1.ns hk
  obtain ⟨a1, a2, a3, a4, a5⟩ := S.nofree hx0
  obtain ⟨b1, b2, b3, b4, b5⟩ := S.nofree hd0
  have gx := (N1 (x, instObj C dx) (.head _)).1
  have gd := (N1 (dx, dictOf [] 0) (.tail _ (.head _))).1
  have hne : dx ≠ x := Nat.ne_of_lt l2
  have S2 : St e nm L g h1 vals ((x, instObj C dx) :: (dx, dictOf [] 0) :: news) := by
    refine ⟨⟨S1.mem.keep, fun p hp => ?_, ?_, S.mem.base, S1.mem.kept, S.mem.fresh, fun p hp => ?_, S1.mem.alive, S.mem.G0⟩, S1.ns, S.off, fun p hp => ?_, S.Gs, S.Lf, S.LW⟩
    · rcases List.mem_cons.mp hp with rfl | hp
      · exact ⟨gx, a1⟩
      · rcases List.mem_cons.mp hp with rfl | hp
        · exact ⟨gd, b1⟩
        · exact S1.mem.hold p hp
    · simp only [List.map_cons, List.nodup_cons, List.mem_cons, List.mem_map, not_or]
      exact ⟨⟨Ne.symm hne, fun ⟨p, hp, q⟩ => a5 p hp q⟩, fun ⟨p, hp, q⟩ => b5 p hp q, S.mem.nd⟩
    · rcases List.mem_cons.mp hp with rfl | hp
      · exact .inr a2
      · rcases List.mem_cons.mp hp with rfl | hp
        · exact .inr b2
        · exact S.mem.own p hp
    · rcases List.mem_cons.mp hp with rfl | hp
      · exact a3
      · rcases List.mem_cons.mp hp with rfl | hp
        · exact b3
        · exact S.Ln p hp
  obtain ⟨g1, k1, k2, S3⟩ := S2.freeze a2
  have S4 : St e nm L g1 h1 vals (((dx, dictOf [] 0) :: W) ++ rest) := S3.perm (hp.cons _)
  have Ru : Room (A.under (.builtin "type.__call__" ⟨.ref C :: args, []⟩)) n := ⟨R.h, by rw [depth_under_make]; have := R.d; (first | lia | omega), by rw [units_under_make]; have := R.u; (first | lia | omega)⟩
  refine codeAny_mono (c x dx h1 g1 k1 k2 (A.under (.builtin "type.__call__" ⟨.ref C :: args, []⟩)) gs dr tk os (fun v s' => v = .none ∧ Q (.ref x) s') Ru S4.pre fun v h' tk' g' W' M hP => ⟨hP.1, k x dx h' tk' g' W' (k1.trans (S4.after M).1) (Inst.le k2 (S4.after M).1) (S4.after M).2 hP.2⟩) fun r s' z => ?_
  rcases r with e1 | (v | _ | _ | _) <;> first | exact z | exact z.elim
end
end Mine
namespace Mine

/-! loops -/
noncomputable def ownOn (wr : List Addr) (h : Heap) : List (Addr × Obj) := wr.filterMap fun b => (h.get? b).map (b, ·)
theorem mem_ownOn {wr : List Addr} {h : Heap} {p : Addr × Obj} : p ∈ ownOn wr h ↔ p.1 ∈ wr ∧ h.get? p.1 = some p.2 := by
  obtain ⟨b, o⟩ := p
  unfold ownOn
  simp only [List.mem_filterMap]
  constructor
  · rintro ⟨c, hc, q⟩
    cases z : h.get? c with
    | none => rw [z] at q; cases q
    | some o' =>
      rw [z] at q
      simp only [Option.map_some, Option.some.injEq, Prod.mk.injEq] at q
      obtain ⟨rfl, rfl⟩ := q
      exact ⟨hc, z⟩
  · rintro ⟨h1, h2⟩
    exact ⟨b, h1, by rw [h2]; rfl⟩
theorem ownOn_nodup {h : Heap} : ∀ {wr : List Addr}, wr.Nodup → ((ownOn wr h).map (·.1)).Nodup
  | [], _ => List.nodup_nil
  | b :: r, nd => by
    have hn := List.nodup_cons.mp nd
    have ih := ownOn_nodup (h := h) hn.2
    show (((b :: r).filterMap fun b => (h.get? b).map (b, ·)).map (·.1)).Nodup
    rw [List.filterMap_cons]
    cases z : h.get? b with
    | none => exact ih
    | some o =>
      simp only [Option.map_some]
      refine List.nodup_cons.mpr ⟨fun q => ?_, ih⟩
      obtain ⟨p, hp, e⟩ := List.mem_map.mp q
      have := (mem_ownOn (wr := r) (h := h) (p := p)).mp hp
      have e' : p.1 = b := e
      exact hn.1 (e' ▸ this.1)

section
variable {e : Ent} {nm : List Str} {L : Addr} {g h : Heap} {vals : List (Option Value)} {news : List (Addr × Obj)} {prog : Program} {w : World} {A : Around} {gs : Array GenState} {dr : Drawn} {tk : Nat} {os : OsState}
theorem St.turn {own : List (Addr × Obj)} {wr : List Addr} (S : St e nm L g h vals (news ++ own)) (nd : wr.Nodup) (hin : ∀ b ∈ wr, ∀ o, h.get? b = some o → (b, o) ∈ own) (hwr : ∀ b ∈ wr, e.H.get? b = none ∧ b ≠ L ∧ b ∉ e.W) {h' : Heap} (hk : ∀ b o, b ∉ wr → h.get? b = some o → h'.get? b = some o) :
    St e nm L g h' vals (news ++ ownOn wr h') := by
  have gn : ∀ b ∈ wr, g.get? b = none := fun b hb => by
    cases q : g.get? b with
    | none => rfl
    | some o =>
      have := S.mem.keep _ _ q
      have z := (S.mem.hold _ (List.mem_append_right _ (hin b hb o this))).2
      rw [q] at z; cases z
  have nn : ∀ p ∈ news, p.1 ∉ wr := fun p hp hw => by
    have a := (S.mem.hold p (List.mem_append_left _ hp)).1
    have b := hin _ hw _ a
    have nd' := S.mem.nd
    rw [List.map_append, List.nodup_append] at nd'
    exact nd'.2.2 _ (List.mem_map_of_mem hp) _ (List.mem_map_of_mem b) rfl
  have Lw : L ∉ wr := fun q => (hwr L q).2.1 rfl
  refine ⟨⟨fun b o q => hk b o (fun hb => (by rw [gn b hb] at q; cases q)) (S.mem.keep b o q), fun p hp => ?_, ?_, S.mem.base, fun b o q hw => hk b o (fun hb => (by rw [(hwr b hb).1] at q; cases q)) (S.mem.kept b o q hw), S.mem.fresh, fun p hp => ?_, fun b hb q => ?_, S.mem.G0⟩, S.ns.at' fun o q => hk _ o Lw q, S.off, fun p hp => ?_, S.Gs, S.Lf, S.LW⟩
  · rcases List.mem_append.mp hp with hp | hp
    · have := S.mem.hold p (List.mem_append_left _ hp)
      exact ⟨hk _ _ (nn p hp) this.1, this.2⟩
    · have := mem_ownOn.mp hp
      exact ⟨this.2, gn _ this.1⟩
  · have nd' := S.mem.nd
    rw [List.map_append, List.nodup_append] at nd' ⊢
    refine ⟨nd'.1, ownOn_nodup nd, fun a ha b hb q => ?_⟩
    obtain ⟨p, hp, rfl⟩ := List.mem_map.mp ha
    obtain ⟨r, hr, e1⟩ := List.mem_map.mp hb
    have := (mem_ownOn.mp hr).1
    exact nn p hp (by rw [q, ← e1]; exact this)
  · rcases List.mem_append.mp hp with hp | hp
    · exact S.mem.own p (List.mem_append_left _ hp)
    · exact .inr (hwr _ (mem_ownOn.mp hp).1).1
  · cases z : h.get? b with
    | none => exact S.mem.alive b hb z
    | some o => rw [hk b o (fun hw => (hwr b hw).2.2 hb) z] at q; cases q
  · rcases List.mem_append.mp hp with hp | hp
    · exact S.Ln p (List.mem_append_left _ hp)
    · exact (hwr _ (mem_ownOn.mp hp).1).2.1

/-- the end of a turn: i is the number of the next one -/
noncomputable def turnK (e : Ent) (nm : List Str) (L : Addr) (g : Heap) (gs : Array GenState) (dr : Drawn) (os : OsState) (own : List (Addr × Obj)) (P : Nat → Heap → List (Option Value) → List (Addr × Obj) → Prop) (i : Nat) (Q : Flow → Shared → Prop) : Flow → Shared → Prop
  | .ret v, s' => Q (.ret v) s'
  | .brk, s' => Q .next s'
  | _, s' => Ex5 fun g' h' tk' vals' news' => An4 (s' = ⟨h', gs, dr, tk', os⟩) (Le g g') (St e nm L g' h' vals' (news' ++ own)) (P i g' vals' news')

theorem r_turns {target : Expr} {body : List Stmt} {env : Env} {I : Addr} {fp wr : List Addr} {n : Nat} {Pt Md : Nat → Value → Heap → Prop} {Sw : Nat → Heap → Prop} {own : List (Addr × Obj)} {Q : Flow → Shared → Prop} (W : KTurns prog w A target I fp wr n Pt Md Sw) (S : St e nm L g h vals (news ++ own)) (nd : wr.Nodup)
    (hin : ∀ b ∈ wr, ∀ o, h.get? b = some o → (b, o) ∈ own) (hwr : ∀ b ∈ wr, e.H.get? b = none ∧ b ≠ L ∧ b ∉ e.W) (hfp : ∀ b ∈ fp, b ∈ wr ∨ ∃ o, g.get? b = some o) (hlive : ∀ i h, Sw i h → ∀ b ∈ wr, h.get? b ≠ none) (hst : Sw 0 h)
    (P : Nat → Heap → List (Option Value) → List (Addr × Obj) → Prop) (h0 : P 0 g vals news)
    (step : ∀ i v g1 h1 tk1 vals1 news1 own1, i < n → Le g g1 → Pt i v h1 → P i g1 vals1 news1 → St e nm L g1 h1 vals1 (news1 ++ own1) →
      wpAny (model prog w) A (assign target env v) (fun _ s2 => wpAny (model prog w) A (execs body env) (turnK e nm L g1 gs dr os own1 P (i + 1) Q) nE s2) nE ⟨h1, gs, dr, tk1, os⟩)
    (done : ∀ g1 h1 tk1 vals1 news1, Le g g1 → St e nm L g1 h1 vals1 news1 → P n g1 vals1 news1 → Q .next ⟨h1, gs, dr, tk1, os⟩) :
    codeAny (model prog w) A (.forLoop target (.ref I) body [] env) (fun r s' => match r with | .ok f => Q f s' | .error x => cameBackBy (model prog w) A env nE x s') ⟨h, gs, dr, tk, os⟩ := by
  refine codeAny_forLoop_any
    (fun k s' => ∃ g' h' tk' vals' news' own' i, s' = ⟨h', gs, dr, tk', os⟩ ∧ Le g g' ∧ Sw i h' ∧ St e nm L g' h' vals' (news' ++ own') ∧ (∀ b ∈ wr, ∀ o, h'.get? b = some o → (b, o) ∈ own') ∧ P i g' vals' news' ∧ i ≤ n ∧ k = n + 1 - i) ?_ (n + 1)
    ⟨g, h, tk, vals, news, own, 0, rfl, Le.rfl, hst, S, hin, h0, Nat.zero_le _, rfl⟩
  rintro k s' ⟨g', h', tk', vals', news', own', i, rfl, hle, hst', S', hin', hP, hi, rfl⟩
  by_cases hlt : i < n
  · refine W.item i _ _ _ hlt hst' fun v h₁ tk₁ hMd hk₁ => ?_
    refine W.go i v _ _ _ hMd fun h₂ hPt hst₂ hk₂ => ?_
    have S2 := S'.turn nd hin' hwr (h' := h₂) fun b o hb x => hk₂ b o hb (hk₁ b o hb x)
    refine wpAny_mono (step i v g' h₂ tk₁ vals' news' (ownOn wr h₂) hlt hle hPt hP S2) (fun _ s₂ z => wpAny_mono z (fun f s₃ h₃ => ?_) fun _ _ z => z.elim) fun _ _ z => z.elim
    have nx : (Ex5 fun g'' h'' tk'' vals'' news'' => An4 (s₃ = ⟨h'', gs, dr, tk'', os⟩) (Le g' g'') (St e nm L g'' h'' vals'' (news'' ++ ownOn wr h₂)) (P (i + 1) g'' vals'' news'')) → ∃ m, m < n + 1 - i ∧ ∃ g' h' tk' vals' news' own' i, s₃ = ⟨h', gs, dr, tk', os⟩ ∧ Le g g' ∧ Sw i h' ∧ St e nm L g' h' vals' (news' ++ own') ∧ (∀ b ∈ wr, ∀ o, h'.get? b = some o → (b, o) ∈ own') ∧ P i g' vals' news' ∧ i ≤ n ∧ m = n + 1 - i := by
      rintro ⟨g'', h'', tk'', vals'', news'', rfl, hle', S3, hP3⟩
      have own3 : ∀ b ∈ wr, ∀ o, h₂.get? b = some o → h''.get? b = some o := fun b hb o q => (S3.mem.hold (b, o) (List.mem_append_right _ (mem_ownOn.mpr ⟨hb, q⟩))).1
      refine ⟨n + 1 - (i + 1), by (first | lia | omega), g'', h'', tk'', vals'', news'', ownOn wr h₂, i + 1, rfl, hle.trans hle', W.frame _ _ _ hst₂ fun b hb o q => ?_, S3, fun b hb o q => ?_, hP3, hlt, rfl⟩
      · rcases hfp b hb with hw | ⟨o', ho'⟩
        · exact own3 b hw o q
        · have a := hle _ _ ho'
          have a2 := S2.mem.keep _ _ a
          rw [q] at a2
          cases a2
          exact S3.mem.keep _ _ (hle' _ _ a)
      · cases z : h₂.get? b with
        | some o' =>
          have := own3 b hb o' z
          rw [q] at this
          cases this
          exact mem_ownOn.mpr ⟨hb, z⟩
        | none => exact absurd z (hlive _ _ hst₂ b hb)
    cases f with
    | ret v => exact h₃
    | brk => exact h₃
    | cont => exact nx h₃
    | next => exact nx h₃
  · have hin : i = n := by (first | lia | omega)
    subst hin
    refine W.done _ _ _ hst' fun h₁ tk₁ hk₁ => wpAny_execs_nil ?_
    exact done g' h₁ tk₁ vals' news' hle ((S'.turn nd hin' hwr hk₁).sublist (List.sublist_append_left _ _)) hP
end
end Mine
namespace Mine

section
variable {e : Ent} {nm gl : List Str} {L : Addr} {g h : Heap} {vals vals' : List (Option Value)} {news : List (Addr × Obj)} {prog : Program} {w : World} {A : Around} {gs : Array GenState} {dr : Drawn} {tk : Nat} {os : OsState} {m : Nat}

noncomputable def ForK (prog : Program) (w : World) (A : Around) (target : Expr) (body : List Stmt) (env : Env) (Q : Flow → Shared → Prop) : Value → Shared → Prop := fun x s₁ =>
  wpAny (model prog w) A (pyIter x) (fun it s₂ => codeAny (model prog w) A (.forLoop target it body [] env) (fun r s' => match r with | .ok f => Q f s' | .error y => cameBackBy (model prog w) A env nE y s') s₂) nE s₁
theorem x_for {target iter : Expr} {body : List Stmt} {pos : Pos} {env : Env} {s : Shared} {Q : Flow → Shared → Prop} (h : wpAny (model prog w) A (eval iter env) (ForK prog w A target body env Q) nE s) (hs : ∀ x, foldedSetIterable iter env x = pure x := by intro _; rfl) :
    wpAny (model prog w) A (exec (.For target iter body [] pos) env) Q nE s := wpAny_For h hs

/-- over a list that no longer changes -/
theorem r_forL {target : Expr} {body : List Stmt} {env : Env} {r : Addr} {vs : List Value} {Q : Flow → Shared → Prop} (R : Room A m) (S : St e nm L g h vals news) (hr : LstAt g r vs)
    (P : Nat → Heap → List (Option Value) → List (Addr × Obj) → Prop) (h0 : P 0 g vals news)
    (step : ∀ i v g1 h1 tk1 vals1 news1 own1, vs[i]? = some v → Le g g1 → P i g1 vals1 news1 → St e nm L g1 h1 vals1 (news1 ++ own1) →
      OpAll (turnK e nm L g1 gs dr os own1 P (i + 1) Q) fun T => wpAny (model prog w) A (assign target env v) (fun _ s2 => wpAny (model prog w) A (execs body env) T nE s2) nE ⟨h1, gs, dr, tk1, os⟩)
    (done : ∀ g1 h1 tk1 vals1 news1, Le g g1 → St e nm L g1 h1 vals1 news1 → P vs.length g1 vals1 news1 → Q .next ⟨h1, gs, dr, tk1, os⟩) :
    ForK prog w A target body env Q (.ref r) ⟨h, gs, dr, tk, os⟩ := by
  have hl : LstAt h r vs := hr.le S.le
  obtain ⟨o, ho, _⟩ := hl
  have hlt := Heap.lt_size ho
  have hl : LstAt h r vs := hr.le S.le
  have hf := get_none_size h
  obtain ⟨f1, f2, f3, f4, f5⟩ := S.nofree hf
  refine wpAny_pyIter_list hl.isList ?_
  have W := KTurns.ofWalks (target := target) (Walks.list (prog := prog) (w := w) R.h h.objs.size r (Nat.ne_of_lt hlt) vs.toArray) fun i v s Q E st q => letGo_listiter st.1 q
  refine r_turns (own := [(h.objs.size, { cls := .type "list_iterator", data := .fields #[.ref r, .int 0 0] })]) W ((S.push _ rfl).perm (List.perm_append_singleton _ _).symm) (List.nodup_cons.mpr ⟨List.not_mem_nil, List.nodup_nil⟩) (fun b hb o ho => ?_) (fun b hb => ?_) (fun b hb => ?_) (fun i h st b hb => ?_) ⟨⟨_, Heap.get?_push_size _ rfl, rfl, rfl⟩, (hl.isList).push _⟩ P h0 (fun i v g1 h1 tk1 vals1 news1 own1 _ hle hP hJ S1 => (step i v g1 h1 tk1 vals1 news1 own1 (by simpa using hP) hle hJ S1).go) (by simpa using done)
  · rw [List.mem_singleton.mp hb] at ho ⊢
    rw [Heap.get?_push_size _ rfl] at ho
    cases ho
    exact List.mem_singleton.mpr rfl
  · rw [List.mem_singleton.mp hb]
    exact ⟨f2, f3, f4⟩
  · rcases List.mem_cons.mp hb with rfl | hb
    · exact .inl (List.mem_singleton.mpr rfl)
    · rw [List.mem_singleton.mp hb]
      obtain ⟨o, q, _⟩ := hr
      exact .inr ⟨o, q⟩
  · rw [List.mem_singleton.mp hb]
    obtain ⟨o, q, _⟩ := st.1
    rw [q]; exact fun z => by cases z
theorem TupAt.isTuple {h a vs} (x : TupAt h a vs) : h.IsTuple a vs.toArray := by
  obtain ⟨n, q⟩ := x
  exact ⟨_, q, rfl, n, rfl⟩
/-- over a tuple -/
theorem r_forT {target : Expr} {body : List Stmt} {env : Env} {r : Addr} {vs : List Value} {Q : Flow → Shared → Prop} (R : Room A m) (S : St e nm L g h vals news) (hr : TupAt g r vs)
    (P : Nat → Heap → List (Option Value) → List (Addr × Obj) → Prop) (h0 : P 0 g vals news)
    (step : ∀ i v g1 h1 tk1 vals1 news1 own1, vs[i]? = some v → Le g g1 → P i g1 vals1 news1 → St e nm L g1 h1 vals1 (news1 ++ own1) →
      OpAll (turnK e nm L g1 gs dr os own1 P (i + 1) Q) fun T => wpAny (model prog w) A (assign target env v) (fun _ s2 => wpAny (model prog w) A (execs body env) T nE s2) nE ⟨h1, gs, dr, tk1, os⟩)
    (done : ∀ g1 h1 tk1 vals1 news1, Le g g1 → St e nm L g1 h1 vals1 news1 → P vs.length g1 vals1 news1 → Q .next ⟨h1, gs, dr, tk1, os⟩) :
    ForK prog w A target body env Q (.ref r) ⟨h, gs, dr, tk, os⟩ := by
  have hl : TupAt h r vs := hr.le S.le
  obtain ⟨_, ho⟩ := hl
  have hlt := Heap.lt_size ho
  have hl : TupAt h r vs := hr.le S.le
  have hf := get_none_size h
  obtain ⟨f1, f2, f3, f4, f5⟩ := S.nofree hf
  refine wpAny_pyIter_tuple hl.isTuple ?_
  have W := KTurns.ofWalks (target := target) (Walks.tuple (prog := prog) (w := w) R.h h.objs.size r (Nat.ne_of_lt hlt) vs.toArray) fun i v s Q E st q => letGo_tupleiter st.1 q
  refine r_turns (own := [(h.objs.size, { cls := .type "tuple_iterator", data := .fields #[.ref r, .int 0 0] })]) W ((S.push _ rfl).perm (List.perm_append_singleton _ _).symm) (List.nodup_cons.mpr ⟨List.not_mem_nil, List.nodup_nil⟩) (fun b hb o ho => ?_) (fun b hb => ?_) (fun b hb => ?_) (fun i h st b hb => ?_) ⟨⟨_, Heap.get?_push_size _ rfl, rfl, rfl⟩, (hl.isTuple).at fun o q => Heap.get?_push_of_some _ q⟩ P h0 (fun i v g1 h1 tk1 vals1 news1 own1 _ hle hP hJ S1 => (step i v g1 h1 tk1 vals1 news1 own1 (by simpa using hP) hle hJ S1).go) (by simpa using done)
  · rw [List.mem_singleton.mp hb] at ho ⊢
    rw [Heap.get?_push_size _ rfl] at ho
    cases ho
    exact List.mem_singleton.mpr rfl
  · rw [List.mem_singleton.mp hb]
    exact ⟨f2, f3, f4⟩
  · rcases List.mem_cons.mp hb with rfl | hb
    · exact .inl (List.mem_singleton.mpr rfl)
    · rw [List.mem_singleton.mp hb]
      obtain ⟨_, q⟩ := hr
      exact .inr ⟨_, q⟩
  · rw [List.mem_singleton.mp hb]
    obtain ⟨o, q, _⟩ := st.1
    rw [q]; exact fun z => by cases z

theorem small_ok {n : Int} (hn : 0 ≤ n ∧ n < 2 ^ 31) : Builtin.Range.small 0 n 1 = true := by
  unfold Builtin.Range.small Builtin.Range.rangeFitsLong
  rw [rangeSize_one]
  split <;> simp <;> (first | lia | omega)
noncomputable def RngAt (h : Heap) (r : Addr) (n : Int) : Prop := ∃ t u v, IsRange h r 0 n 1 t u v
theorem RngAt.le {g h r n} (x : RngAt g r n) (k : Le g h) : RngAt h r n := let ⟨t, u, v, q⟩ := x; ⟨t, u, v, k _ _ q⟩
theorem r_range {n : Int} {t : Tok} {E : Value → Shared → Prop} {Q : Value → Shared → Prop} (S : St e nm L g h vals news) (k : ∀ r h' g' tk', Le g g' → RngAt g' r n → St e nm L g' h' vals news → Q (.ref r) ⟨h', gs, dr, tk', os⟩) : wpAny (model prog w) A (call (.type "range") [.int n t]) Q E ⟨h, gs, dr, tk, os⟩ := by
  obtain ⟨g', k1, k2, k3⟩ := S.pushI { cls := .type "range", data := .fields #[.int 0 tk, .int n t, .int 1 (tk + 1)] } rfl
  exact call_range_1 (k _ _ g' _ k1 ⟨_, _, _, k2⟩ k3)
theorem r_forR {x : Str} {px : Pos} {body : List Stmt} {env : Env} {r : Addr} {n : Int} {Q : Flow → Shared → Prop} (R : Room A m) (S : St e nm L g h vals news) (hr : RngAt g r n) (hn : 0 ≤ n ∧ n < 2 ^ 31)
    (P : Nat → Heap → List (Option Value) → List (Addr × Obj) → Prop) (h0 : P 0 g vals news)
    (step : ∀ (i : Nat) t g1 h1 tk1 vals1 news1 own1, (i : Int) < n → Le g g1 → P i g1 vals1 news1 → St e nm L g1 h1 vals1 (news1 ++ own1) →
      OpAll (turnK e nm L g1 gs dr os own1 P (i + 1) Q) fun T => wpAny (model prog w) A (storeName env x (.int i t)) (fun _ s2 => wpAny (model prog w) A (execs body env) T nE s2) nE ⟨h1, gs, dr, tk1, os⟩)
    (done : ∀ g1 h1 tk1 vals1 news1, Le g g1 → St e nm L g1 h1 vals1 news1 → P n.toNat g1 vals1 news1 → Q .next ⟨h1, gs, dr, tk1, os⟩) :
    ForK prog w A (.Name x px) body env Q (.ref r) ⟨h, gs, dr, tk, os⟩ := by
  obtain ⟨t, u, v, hr⟩ := hr
  have hl := S.le _ _ hr
  have hf := get_none_size h
  obtain ⟨f1, f2, f3, f4, f5⟩ := S.nofree hf
  have hsz : Builtin.Range.rangeSize 0 n 1 = ((n.toNat : Nat) : Int) := by rw [rangeSize_one]; split <;> (first | lia | omega)
  refine wpAny_pyIter_range hl (small_ok hn) ?_
  have W := KTurns.ofWalks (target := .Name x px) (Walks.range (prog := prog) (w := w) R.h h.objs.size 0 1 n.toNat) fun i v s Q E st q => wpAny_pure (a := ()) q
  refine r_turns (own := [(h.objs.size, { cls := .type "range_iterator", data := .fields #[rawInt 0, rawInt (Builtin.Range.rangeSize 0 n 1), rawInt 1] })]) W ((S.push _ rfl).perm (List.perm_append_singleton _ _).symm) (List.nodup_cons.mpr ⟨List.not_mem_nil, List.nodup_nil⟩) (fun b hb o ho => ?_) (fun b hb => ?_) (fun b hb => ?_) (fun i h st b hb => ?_) ?_ P h0 (fun i v g1 h1 tk1 vals1 news1 own1 hi hle hP hJ S1 => ?_) done
  · rw [List.mem_singleton.mp hb] at ho ⊢
    rw [Heap.get?_push_size _ rfl] at ho
    cases ho
    exact List.mem_singleton.mpr rfl
  · rw [List.mem_singleton.mp hb]
    exact ⟨f2, f3, f4⟩
  · exact .inl hb
  · rw [List.mem_singleton.mp hb]
    have q : h.get? _ = some _ := st
    rw [q]; exact fun z => by cases z
  · rw [hsz]
    show (h.push _).get? h.objs.size = some _
    rw [Heap.get?_push_size _ rfl]
    simp
  · obtain ⟨t, rfl⟩ := hP
    rw [Int.zero_add, Int.mul_one]
    exact wpAny_assign_Name (step i t g1 h1 tk1 vals1 news1 own1 (by (first | lia | omega)) hle hJ S1).go

/-! while -/
noncomputable def whileK (e : Ent) (nm : List Str) (L : Addr) (g : Heap) (gs : Array GenState) (dr : Drawn) (os : OsState) (P : Nat → Heap → List (Option Value) → List (Addr × Obj) → Prop) (n : Nat) (Q : Flow → Shared → Prop) : Flow → Shared → Prop
  | .ret v, s' => Q (.ret v) s'
  | .brk, s' => Q .next s'
  | _, s' => Ex6 fun n' g' h' tk' vals' news' => An5 (n' < n) (s' = ⟨h', gs, dr, tk', os⟩) (Le g g') (St e nm L g' h' vals' news') (P n' g' vals' news')
theorem x_while {test : Expr} {body : List Stmt} {pos : Pos} {env : Env} {Q : Flow → Shared → Prop} (S : St e nm L g h vals news) (P : Nat → Heap → List (Option Value) → List (Addr × Obj) → Prop) (n : Nat) (h0 : P n g vals news)
    (turn : ∀ n g1 h1 tk1 vals1 news1, Le g g1 → St e nm L g1 h1 vals1 news1 → P n g1 vals1 news1 →
      OpAll (whileK e nm L g1 gs dr os P n Q) fun T => OpAll Q fun Q' => wpAny (model prog w) A (isTrue test env (eval test env)) (fun b s2 => if b = true then wpAny (model prog w) A (execs body env) T nE s2 else Q' .next s2) nE ⟨h1, gs, dr, tk1, os⟩) :
    wpAny (model prog w) A (exec (.While test body [] pos) env) Q nE ⟨h, gs, dr, tk, os⟩ := by
  refine wpAny_While (codeAny_whileLoop (fun n s' => ∃ g' h' tk' vals' news', s' = ⟨h', gs, dr, tk', os⟩ ∧ Le g g' ∧ St e nm L g' h' vals' news' ∧ P n g' vals' news') ?_ n ⟨g, h, tk, vals, news, rfl, Le.rfl, S, h0⟩)
  rintro n s' ⟨g1, h1, tk1, vals1, news1, rfl, hle, S1, P1⟩
  refine wpAny_mono (turn n g1 h1 tk1 vals1 news1 hle S1 P1).go.go (fun b s₂ h₂ => ?_) fun _ _ z => z.elim
  cases b with
  | false =>
    simp only [Bool.false_eq_true, if_false] at h₂ ⊢
    exact wpAny_execs_nil h₂
  | true =>
    simp only [if_true] at h₂ ⊢
    refine wpAny_mono h₂ (fun f s₃ h₃ => ?_) fun _ _ z => z.elim
    cases f with
    | ret v => exact h₃
    | brk => exact h₃
    | cont =>
      obtain ⟨n', g', h', tk', vals', news', hn, rfl, hle', S', P'⟩ := h₃
      exact ⟨n', hn, g', h', tk', vals', news', rfl, hle.trans hle', S', P'⟩
    | next =>
      obtain ⟨n', g', h', tk', vals', news', hn, rfl, hle', S', P'⟩ := h₃
      exact ⟨n', hn, g', h', tk', vals', news', rfl, hle.trans hle', S', P'⟩

/-! several targets -/
theorem keepsLe {h h' : Heap} (k : Heap.ExtBut h.objs.size h h') : ∀ b o, h.get? b = some o → h'.get? b = some o := fun b o q => k b o (Nat.ne_of_lt (Heap.lt_size q)) q
noncomputable def asgK (M : Model) (A : Around) (elts : List Expr) (env : Env) (vs : List Value) (Q : Unit → Shared → Prop) (E : Value → Shared → Prop) (s : Shared) : Prop := wpAny M A (assignInOrder ((assignEach elts env).map (·.2)) vs) Q E s
theorem r_asgT {elts : List Expr} {k0 : Nat} {pos : Pos} {env : Env} {t : Addr} {vs : List Value} {E : Value → Shared → Prop} {Q : Unit → Shared → Prop} (R : Room A m) (S : St e nm L g h vals news) (ht : TupAt h t vs)
    (k : ∀ h', St e nm L g h' vals news → Le h h' → asgK (model prog w) A elts env vs Q E ⟨h', gs, dr, tk, os⟩)
    (hn : (assignEach elts env).length = vs.length := by rfl) (hstar : (assignEach elts env).findIdx? (·.1) = none := by rfl) : wpAny (model prog w) A (assign (.Tuple elts k0 pos) env (.ref t)) Q E ⟨h, gs, dr, tk, os⟩ :=
  assign_Tuple_tuple R.h ht.isTup (by rw [hn]; rfl) hstar fun h' hk => k h' (S.grow (keepsLe hk)) (keepsLe hk)
theorem r_asg0 {M : Model} {env : Env} {E : Value → Shared → Prop} {Q : Unit → Shared → Prop} {s : Shared} (h : Q () s) : asgK M A [] env [] Q E s := wpAny_assignInOrder_none h
theorem r_asgN {M : Model} {x : Str} {p : Pos} {r : List Expr} {v : Value} {vs : List Value} {env : Env} {E : Value → Shared → Prop} {Q : Unit → Shared → Prop} {s : Shared} (h : wpAny M A (storeName env x v) (fun _ s1 => asgK M A r env vs Q E s1) E s) : asgK M A (.Name x p :: r) env (v :: vs) Q E s :=
  wpAny_assignInOrder_more (wpAny_assign_Name h)
theorem r_asgU {M : Model} {es : List Expr} {k : Nat} {p : Pos} {r : List Expr} {v : Value} {vs : List Value} {env : Env} {E : Value → Shared → Prop} {Q : Unit → Shared → Prop} {s : Shared} (h : wpAny M A (assign (.Tuple es k p) env v) (fun _ s1 => asgK M A r env vs Q E s1) E s) : asgK M A (.Tuple es k p :: r) env (v :: vs) Q E s :=
  wpAny_assignInOrder_more h
/-! a, b = x, y -/
noncomputable def swpK (M : Model) (A : Around) (names : List Str) (env : Env) (vs : List Value) (Q : Unit → Shared → Prop) (E : Value → Shared → Prop) (s : Shared) : Prop := wpAny M A (assignInOrder (names.map fun n => bindName env n) vs) Q E s
noncomputable def SwpK (M : Model) (A : Around) (names : List Str) (env : Env) (Q : Flow → Shared → Prop) (E : Value → Shared → Prop) : Value → Shared → Prop := fun v s₁ => wpAny M A (unpackItems v names.length none) (fun items s₂ => wpAny M A (assignInOrder (names.reverse.map fun n => bindName env n) items.reverse) (fun _ => Q .next) E s₂) E s₁
theorem x_swap {M : Model} {elts : List Expr} {k : Nat} {tpos pos : Pos} {value : Expr} {names : List Str} {env : Env} {E : Value → Shared → Prop} {Q : Flow → Shared → Prop} {s : Shared} (h : wpAny M A (eval value env) (SwpK M A names env Q E) E s)
    (hs : swapsWithSole [.Tuple elts k tpos] value pos.line env = pure false := by rfl) (hw : swappedStores [.Tuple elts k tpos] value env = pure (some names) := by rfl) : wpAny M A (exec (.Assign [.Tuple elts k tpos] value pos) env) Q E s := Assign_Tuple_swapped h hs hw
theorem r_swap {names : List Str} {vs : List Value} {env : Env} {E : Value → Shared → Prop} {Q : Flow → Shared → Prop} (R : Room A m) (S : St e nm L g h vals news) {rn : List Str} {rv : List Value} (hn : names.length = vs.length) (k : ∀ h', St e nm L g h' vals news → swpK (model prog w) A rn env rv (fun _ => Q .next) E ⟨h', gs, dr, tk, os⟩) (e1 : names.reverse = rn := by rfl) (e2 : vs.reverse = rv := by rfl) (hsz : vs.length ≤ sizeLine := by size_fits) :
    wpAny (model prog w) A (newTuple vs) (SwpK (model prog w) A names env Q E) E ⟨h, gs, dr, tk, os⟩ := by
  subst e1 e2
  refine wpAny_newTuple ?_ hsz
  have S1 := S.push { cls := .type "tuple", data := .seq vs.toArray } rfl
  have S2 := S1.sublist (List.sublist_cons_self _ _)
  have hT : IsTup (h.push { cls := .type "tuple", data := .seq vs.toArray }) h.objs.size vs.toArray := ⟨_, Heap.get?_push_size _ rfl, rfl, 0, rfl⟩
  unfold SwpK
  rw [show names.length = vs.toArray.size by rw [hn]; rfl]
  refine unpackItems_tuple R.h hT fun h' hk => ?_
  exact k h' (S2.grow (keepsLe hk))
theorem r_swp0 {M : Model} {env : Env} {E : Value → Shared → Prop} {Q : Unit → Shared → Prop} {s : Shared} (h : Q () s) : swpK M A [] env [] Q E s := wpAny_assignInOrder_none h
theorem r_swpN {M : Model} {x : Str} {r : List Str} {v : Value} {vs : List Value} {env : Env} {E : Value → Shared → Prop} {Q : Unit → Shared → Prop} {s : Shared} (h : wpAny M A (storeName env x v) (fun _ s1 => swpK M A r env vs Q E s1) E s) : swpK M A (x :: r) env (v :: vs) Q E s :=
  wpAny_assignInOrder_more (wpAny_bindName h)

/-! small calls -/
theorem r_min {a b : Int} {t u : Tok} {E : Value → Shared → Prop} {Q : Value → Shared → Prop} (R : Room A m) (S : St e nm L g h vals news) (k : ∀ h' tk' t', St e nm L g h' vals news → Q (.int (min a b) t') ⟨h', gs, dr, tk', os⟩) : wpAny (model prog w) A (call (.builtin "min") [.int a t, .int b u]) Q E ⟨h, gs, dr, tk, os⟩ := by
  refine min_two_ints R.h fun h' tk' hk => ?_
  by_cases hb : b < a
  · rw [if_pos hb, show b = min a b by (first | lia | omega)]; exact k h' tk' _ (S.grow hk)
  · rw [if_neg hb, show Value.int a t = .int (min a b) t by rw [show min a b = a by (first | lia | omega)]]; exact k h' tk' _ (S.grow hk)
theorem r_max {a b : Int} {t u : Tok} {E : Value → Shared → Prop} {Q : Value → Shared → Prop} (R : Room A m) (S : St e nm L g h vals news) (k : ∀ h' tk' t', St e nm L g h' vals news → Q (.int (max a b) t') ⟨h', gs, dr, tk', os⟩) : wpAny (model prog w) A (call (.builtin "max") [.int a t, .int b u]) Q E ⟨h, gs, dr, tk, os⟩ := by
  refine max_two_ints R.h fun h' tk' hk => ?_
  by_cases hb : b > a
  · rw [if_pos hb, show b = max a b by (first | lia | omega)]; exact k h' tk' _ (S.grow hk)
  · rw [if_neg hb, show Value.int a t = .int (max a b) t by rw [show max a b = a by (first | lia | omega)]]; exact k h' tk' _ (S.grow hk)
theorem r_isNN {E : Value → Shared → Prop} {Q : Value → Shared → Prop} {s : Shared} (k : Q (.bool false) s) : wpAny (model prog w) A (compareOp .IsNot .none .none) Q E s := wpAny_isNot_self rfl k
theorem r_isNR {x : Addr} {E : Value → Shared → Prop} {Q : Value → Shared → Prop} {s : Shared} (k : Q (.bool true) s) : wpAny (model prog w) A (compareOp .IsNot (.ref x) .none) Q E s := wpAny_isNot_other rfl (fun z => by cases z) k
theorem r_isR {x : Addr} {E : Value → Shared → Prop} {Q : Value → Shared → Prop} {s : Shared} (k : Q (.bool false) s) : wpAny (model prog w) A (compareOp .Is (.ref x) .none) Q E s := wpAny_is_other rfl (fun z => by cases z) k
theorem r_isRR {x : Addr} {E : Value → Shared → Prop} {Q : Value → Shared → Prop} {s : Shared} (k : Q (.bool false) s) : wpAny (model prog w) A (compareOp .IsNot (.ref x) (.ref x)) Q E s := wpAny_isNot_ref_self k
/-- list(x), into the base -/
theorem r_listOf {l : Addr} {vs : List Value} {E : Value → Shared → Prop} {Q : Value → Shared → Prop} (S : St e nm L g h vals news) (hl : LstAt h l vs) (hz : vs.length ≤ sizeLine) (k : ∀ r h' g', Le g g' → LstAt g' r vs → St e nm L g' h' vals news → Q (.ref r) ⟨h', gs, dr, tk, os⟩) : wpAny (model prog w) A (call (.type "list") [.ref l]) Q E ⟨h, gs, dr, tk, os⟩ := by
  obtain ⟨o, ho, n, rfl⟩ := hl
  have hf := get_none_size h
  refine call_list_seq l (.inl rfl) ho rfl rfl (fun h' c' hk hr => ?_) (by simpa using hz)
  obtain ⟨g', k1, k2, k3⟩ := (S.new hf hk hr).freeze (S.nofree hf).2.1
  exact k _ h' g' k1 ⟨_, k2, c', rfl⟩ k3
theorem IntsAt.has {h a ns} (x : IntsAt h a ns) : ∃ vs, LstAt h a vs ∧ IntsAre vs ns ∧ vs.length = ns.length := by
  obtain ⟨vs, a, b⟩ := x.lst
  exact ⟨vs, a, b, b.length⟩
theorem r_listOfI {l : Addr} {ns : List Int} {E : Value → Shared → Prop} {Q : Value → Shared → Prop} (S : St e nm L g h vals news) (hl : IntsAt h l ns) (hz : ns.length ≤ 2 ^ 20) (k : ∀ r h' g', Le g g' → IntsAt g' r ns → St e nm L g' h' vals news → Q (.ref r) ⟨h', gs, dr, tk, os⟩) : wpAny (model prog w) A (call (.type "list") [.ref l]) Q E ⟨h, gs, dr, tk, os⟩ := by
  obtain ⟨vs, h1, h2, h3⟩ := hl.has
  exact r_listOf S h1 (by rw [sizeLine_eq, h3]; (first | lia | omega)) fun r h' g' k1 k2 k3 => k r h' g' k1 (k2.ints h2) k3

/-! among the ints of a tuple -/
theorem r_notInT {t : Addr} {vs : List Value} {ns : List Int} {x : Int} {u : Tok} {E : Value → Shared → Prop} {Q : Value → Shared → Prop} (ht : TupAt h t vs) (hi : IntsAre vs ns) (k : Q (.bool (!decide (x ∈ ns))) ⟨h, gs, dr, tk, os⟩) : wpAny (model prog w) A (compareOp .NotIn (.int x u) (.ref t)) Q E ⟨h, gs, dr, tk, os⟩ := by
  refine PySem.SeqAt.notIn_tupleAt (fun v => match v with | .int y _ => y == x | _ => false) ht.isTuple (fun y hy => ?_) ?_
  · have hy' : y ∈ vs := by simpa using hy
    clear ht k
    induction hi with
    | nil => cases hy'
    | @cons n t' us ms hi ih =>
      rcases List.mem_cons.mp hy' with rfl | hy'
      · exact PySem.SeqAt.EqAt.int_int _ _ _ _
      · exact ih (by simpa using hy') hy'
  · have : (vs.toArray.any fun v => match v with | .int y _ => y == x | _ => false) = decide (x ∈ ns) := by
      rw [List.any_toArray]
      clear ht k
      induction hi with
      | nil => simp
      | @cons n t' us ms hi ih =>
        rw [List.any_cons, ih]
        by_cases hn : n = x
        · subst hn; simp
        · simp [hn, Ne.symm hn]
    rw [this]
    exact k
end
end Mine
namespace Mine

/-! tables with int keys -/
noncomputable def DctO (prog : Program) (w : World) (d : Addr) (o : Obj) (kvs : List (Int × Value)) : Prop := (d == sysModules) = false ∧ o.IsDictOf (intKind prog w) kvs
section
variable {K : Frag} {mg mb : Str → Option Value} {e : Ent} {nm gl : List Str} {L : Addr} {g h : Heap} {vals vals' : List (Option Value)} {news : List (Addr × Obj)} {prog : Program} {w : World} {A : Around} {E : Value → Shared → Prop} {gs : Array GenState} {dr : Drawn} {tk : Nat} {os : OsState} {m : Nat} {d : Addr} {kvs : List (Int × Value)}
theorem r_dict0 {pos : Pos} {env : Env} {Q : Value → Shared → Prop} (S : St e nm L g h vals news) (B : Base K e.G mg mb) (k : ∀ r h' o, DctO prog w r o [] → St e nm L g h' vals ((r, o) :: news) → Q (.ref r) ⟨h', gs, dr, tk, os⟩) : wpAny (model prog w) A (eval (.Dict [] [] pos) env) Q E ⟨h, gs, dr, tk, os⟩ := by
  refine wpAny_Dict_empty (k _ _ _ ⟨?_, #[], 0, ⟨rfl, rfl, rfl⟩, rfl, fun _ h => by simp at h, .nil, List.nodup_nil⟩ (S.push _ rfl))
  have h1 : L < h.objs.size := S.ns.lt
  have h2 := B.g.lt
  have h3 := S.Gs
  have h4 : 0 < h.objs.size - 1 := Nat.lt_of_lt_of_le (Nat.lt_of_le_of_lt (Nat.zero_le _) h2) (Nat.le_trans h3 (Nat.le_sub_one_of_lt h1))
  rw [beq_eq_false_iff_ne]
  intro q
  rw [show h.objs.size = 1 from q] at h4
  exact absurd h4 (Nat.lt_irrefl _)
theorem St.dct (S : St e nm L g h vals news) {o : Obj} (hm : (d, o) ∈ news) (x : DctO prog w d o kvs) : h.DictOf (intKind prog w) d kvs := Heap.dictOf_iff.mpr ⟨o, S.at hm, x.2⟩
theorem r_getD {o : Obj} {k : Int} {u : Tok} {v : Value} {value slice : Expr} {ops : List Value} {Q : Value → Shared → Prop} (S : St e nm L g h vals news) (hm : (d, o) ∈ news) (x : DctO prog w d o kvs) (hv : valueAt kvs k = some v) (h1 : Q v ⟨h, gs, dr, tk + 1, os⟩)
    (hsub : subscripted slice false (.ref d) (.int k u) = operate ops (getItem (.ref d) (.int k u)) := by with_unfolding_all rfl) : wpAny (model prog w) A (subscriptTail value slice (.ref d) (.int k u)) Q E ⟨h, gs, dr, tk, os⟩ :=
  have hm' := S.dct hm x
  tail_any hm'.typeIs slot_dict_getitem.lookup (wpAny_getItem_of (knd := intKind prog w) (k := k) (intKind_is prog w k u) hm'.mapOf hv h1) hsub
theorem r_setD {put : Obj → List (Addr × Obj)} {o : Obj} {k : Int} {u : Tok} {v : Value} {Q : Unit → Shared → Prop} (S : St e nm L g h vals news) (x : DctO prog w d o kvs) (up : ∀ o', Upd1 d o o' news (put o')) (hz : kvs.length ≤ 1000)
    (k1 : ∀ h' o', DctO prog w d o' (stored kvs k v) → St e nm L g h' vals (put o') → Q () ⟨h', gs, dr, tk + 1, os⟩) : wpAny (model prog w) A (setItem (.ref d) (.int k u) v) Q E ⟨h, gs, dr, tk, os⟩ := by
  have hm := S.dct (up o).mem x
  refine wpAny_setItem_pairs (knd := intKind prog w) (k := k) (intKind_is prog w k u) hm (fun h' hd hs => ?_) (by rw [sizeLine_eq]; (first | lia | omega))
  obtain ⟨o', ho', hx'⟩ := Heap.dictOf_iff.mp hd
  have dL : L ≠ d := Ne.symm (S.Ln _ (up o).mem)
  exact k1 h' o' ⟨x.1, hx'⟩ (S.upd' (up o') (S.ns.at' fun o q => (hs.2 _ dL).trans q) (fun b y hb _ q => (hs.2 _ hb).trans q) ho')

theorem keys_ints {vs : List Value} {kvs : List (Int × Value)} (hl : vs.length = kvs.length) (hv : ∀ (j : Nat) (v : Value), vs[j]? = some v → ∃ k x, kvs[j]? = some (k, x) ∧ (intKind prog w).is k v = true) : IntsAre vs (kvs.map (·.1)) := by
  induction vs generalizing kvs with
  | nil => cases kvs with
    | nil => exact .nil
    | cons _ _ => cases hl
  | cons v r ih =>
    cases kvs with
    | nil => cases hl
    | cons p q =>
      obtain ⟨k, x, h1, h2⟩ := hv 0 v rfl
      simp only [List.getElem?_cons_zero, Option.some.injEq] at h1
      subst h1
      obtain ⟨t, rfl⟩ := Value.isInt_shape h2
      exact .cons _ _ (ih (by simpa using hl) fun j v hj => hv (j + 1) v (by simpa using hj))
theorem r_sortedD {o : Obj} {Q : Value → Shared → Prop} (R : Room A m) (S : St e nm L g h vals news) (hm : (d, o) ∈ news) (x : DctO prog w d o kvs) (asc : (kvs.map (·.1)).Pairwise (· < ·)) (hz : kvs.length < 64)
    (k : ∀ r h' g' tk', Le g g' → IntsAt g' r (kvs.map (·.1)) → St e nm L g' h' vals news → Q (.ref r) ⟨h', gs, dr, tk', os⟩) : wpAny (model prog w) A (call (.builtin "sorted") [.ref d]) Q E ⟨h, gs, dr, tk, os⟩ := by
  obtain ⟨ep, hat⟩ := (S.dct hm x).dictAt
  refine call_function_entry kind_sorted plain_sorted entry_sorted (args_sorted1 _) ?_
  unfold Builtin.«sorted»
  refine wpAny_bind (m := checkCount "sorted" 1 1 _) (wpAny_pure ?_)
  have hsz : kvs.length ≤ sizeLine := by rw [sizeLine_eq]; (first | lia | omega)
  refine wpAny_bind (kdu_collect (A := A.in1) (kdl_dict (knd := intKind prog w) (kvs := kvs) (ep := ep) x.1) R.h hat hsz fun h1 tk1 acc hk hacc => ?_)
  have hl : acc.toList.length = kvs.length := by rw [Array.length_toList]; exact hacc.1
  refine wpAny_bind (wpAny_newList ?_ (by rw [hl]; exact hsz))
  have hI : IntsAre acc.toList (kvs.map (·.1)) := keys_ints (prog := prog) (w := w) hl fun j v hj => hacc.2 j v (by rw [← Array.getElem?_toList]; exact hj)
  have S1 : St e nm L g h1 vals news := S.grow hk
  have hf := get_none_size h1
  have hoL : (h1.push (seqObj "list" acc.toList.toArray 0)).get? h1.objs.size = some (seqObj "list" acc.toList.toArray 0) := Heap.get?_push_size _ rfl
  refine wpAny_bind (wpAny_holding (wpAny_call_entry slot_list_sort ⟨_, hoL, rfl⟩ entry_list_sort (list_sort_tree hoL hI (by rw [hl]; exact hz) fun out ns' a1 a2 a3 => ⟨_, rfl, ?_⟩) (args_list_sort _)))
  refine wpAny_pure ⟨_, rfl, ?_⟩
  obtain ⟨c, hc⟩ := sortedHeap_at (vs := acc.toList) (out := out) hoL
  have hns : ns' = kvs.map (·.1) := List.Perm.eq_of_pairwise (fun x y _ _ h1 h2 => Int.le_antisymm h1 h2) a3 (asc.imp fun h => Int.le_of_lt h) a2
  subst hns
  obtain ⟨g', k1, k2, k3⟩ := (S1.new hf (h' := sortedHeap (h1.push (seqObj "list" acc.toList.toArray 0)) h1.objs.size acc.toList out) (fun b o q => by
    rw [sortedHeap_old (Nat.ne_of_lt (Heap.lt_size q)) (by rw [size_push']; exact Nat.lt_succ_of_lt (Heap.lt_size q))]
    exact Heap.get?_push_of_some _ q) hc).freeze (S1.nofree hf).2.1
  exact k _ _ g' _ k1 ⟨_, k2, out.toList, ⟨c, rfl⟩, a1⟩ k3
end
end Mine
namespace Mine

structure MutMark : Prop where
  ok : True
/-- a marker -/
structure Mk where
  num : Int
  x : Addr
  dx : Addr
  adv : Bool
  pos : Int
noncomputable def Mk.to (m : Mk) (p : Int) : Mk := { m with pos := p }
noncomputable def MkO (P : Params) (b : Addr) (m : Mk) (o : Obj) : Prop := ∃ t1 t2, AttrsO P o ["number", "advances", "buffer", "position"] [.int m.num t1, .bool m.adv, .ref b, .int m.pos t2]
inductive MksO (P : Params) (b : Addr) : List Mk → List (Addr × Obj) → Prop
  | nil : MksO P b [] []
  | cons {m ms o l} : MkO P b m o → MksO P b ms l → MksO P b (m :: ms) ((m.dx, o) :: l)
theorem MksO.length {P b ms l} (h : MksO P b ms l) : l.length = ms.length := by
  induction h with
  | nil => rfl
  | cons _ _ ih => simp [ih]
theorem MksO.app {P b} {ms ns : List Mk} {l k} (h : MksO P b ms l) (h' : MksO P b ns k) : MksO P b (ms ++ ns) (l ++ k) := by
  induction h with
  | nil => exact h'
  | cons a _ ih => exact .cons a ih
theorem MksO.split {P b} {ms ns : List Mk} {l} (h : MksO P b (ms ++ ns) l) : ∃ a k, l = a ++ k ∧ MksO P b ms a ∧ MksO P b ns k := by
  induction ms generalizing l with
  | nil => exact ⟨[], l, rfl, .nil, h⟩
  | cons m r ih =>
    cases h with
    | cons a h =>
      obtain ⟨x, y, rfl, h1, h2⟩ := ih h
      exact ⟨_, y, rfl, .cons a h1, h2⟩
noncomputable def MkTab (ms : List Mk) : List (Int × Value) := ms.map fun m => (m.num, .ref m.x)
theorem MkTab.keys (ms : List Mk) : (MkTab ms).map (·.1) = ms.map (·.num) := by simp [MkTab]
theorem MkTab.at {ms : List Mk} (asc : (ms.map (·.num)).Pairwise (· < ·)) {m : Mk} (hm : m ∈ ms) : valueAt (MkTab ms) m.num = some (.ref m.x) := by
  induction ms with
  | nil => cases hm
  | cons a r ih =>
    have asc' := List.pairwise_cons.mp (show (a.num :: r.map (·.num)).Pairwise (· < ·) from asc)
    unfold valueAt MkTab
    rcases List.mem_cons.mp hm with rfl | hm
    · simp
    · have hne : a.num ≠ m.num := Int.ne_of_lt (asc'.1 _ (List.mem_map_of_mem hm))
      rw [List.map_cons, List.find?_cons_of_neg (by simpa using hne)]
      exact ih asc'.2 hm

section
variable {e : Ent} {nm gl : List Str} {L : Addr} {g h : Heap} {vals vals' : List (Option Value)} {news : List (Addr × Obj)} {prog : Program} {w : World} {A : Around} {E : Value → Shared → Prop} {gs : Array GenState} {dr : Drawn} {tk : Nat} {os : OsState} {m : Nat}
theorem r_addMut {l m : Addr} {ns ms : List Int} {Q : Value → Shared → Prop} (_ : MutMark) (S : St e nm L g h vals news) (hl : IntsAt h l ns) (hm : IntsAt h m ms) (hz : ns.length + ms.length ≤ 2 ^ 20)
    (k : ∀ r h' o, IntsO o (ns ++ ms) → St e nm L g h' vals ((r, o) :: news) → Q (.ref r) ⟨h', gs, dr, tk, os⟩) : wpAny (model prog w) A (binaryOp .Add (.ref l) (.ref m)) Q E ⟨h, gs, dr, tk, os⟩ := r_addI S hl hm hz k
theorem St.freezeW {r : Addr} {o : Obj} (S : St e nm L g h vals ((r, o) :: news)) (hW : ∀ b ∈ e.W, b ∈ news.map (·.1)) : ∃ g', Le g g' ∧ g'.get? r = some o ∧ St e nm L g' h vals news := by
  refine S.freeze ?_
  rcases S.mem.own (r, o) (.head _) with k | k
  · exact absurd (hW r k) (List.nodup_cons.mp S.mem.nd).1
  · exact k
theorem r_for0 {target : Expr} {body : List Stmt} {env : Env} {r : Addr} {Q : Flow → Shared → Prop} (R : Room A m) (S : St e nm L g h vals news) (hr : LstAt g r []) (k : ∀ h' tk', St e nm L g h' vals news → Q .next ⟨h', gs, dr, tk', os⟩) :
    ForK prog w A target body env Q (.ref r) ⟨h, gs, dr, tk, os⟩ := by
  refine r_forL R S hr (fun i g1 vals1 news1 => g1 = g ∧ vals1 = vals ∧ news1 = news) ⟨rfl, rfl, rfl⟩ (fun i v g1 h1 tk1 vals1 news1 own1 hv => by simp at hv) ?_
  rintro g1 h1 tk1 vals1 news1 hle S1 ⟨rfl, rfl, rfl⟩
  exact k h1 tk1 S1
theorem x_swap2 {M : Model} {a b : Str} {pa pb : Pos} {k : Nat} {tpos pos : Pos} {value : Expr} {env : Env} {Q : Flow → Shared → Prop} {s : Shared} (h : wpAny M A (eval value env) (SwpK M A [a, b] env Q E) E s)
    (hs : swapsWithSole [.Tuple [.Name a pa, .Name b pb] k tpos] value pos.line env = pure false := by rfl) (hw : swappedStores [.Tuple [.Name a pa, .Name b pb] k tpos] value env = pure (some [a, b]) := by rfl) : wpAny M A (exec (.Assign [.Tuple [.Name a pa, .Name b pb] k tpos] value pos) env) Q E s := x_swap h hs hw
theorem x_swap3 {M : Model} {a b c : Str} {pa pb pc : Pos} {k : Nat} {tpos pos : Pos} {value : Expr} {env : Env} {Q : Flow → Shared → Prop} {s : Shared} (h : wpAny M A (eval value env) (SwpK M A [a, b, c] env Q E) E s)
    (hs : swapsWithSole [.Tuple [.Name a pa, .Name b pb, .Name c pc] k tpos] value pos.line env = pure false := by rfl) (hw : swappedStores [.Tuple [.Name a pa, .Name b pb, .Name c pc] k tpos] value env = pure (some [a, b, c]) := by rfl) : wpAny M A (exec (.Assign [.Tuple [.Name a pa, .Name b pb, .Name c pc] k tpos] value pos) env) Q E s := x_swap h hs hw
theorem r_swap2 {a b : Str} {v1 v2 : Value} {env : Env} {Q : Flow → Shared → Prop} (R : Room A m) (S : St e nm L g h vals news) (k : ∀ h', St e nm L g h' vals news → swpK (model prog w) A [b, a] env [v2, v1] (fun _ => Q .next) E ⟨h', gs, dr, tk, os⟩) :
    wpAny (model prog w) A (newTuple [v1, v2]) (SwpK (model prog w) A [a, b] env Q E) E ⟨h, gs, dr, tk, os⟩ := r_swap R S rfl k rfl rfl (by rw [sizeLine_eq]; simp)
theorem r_swap3 {a b c : Str} {v1 v2 v3 : Value} {env : Env} {Q : Flow → Shared → Prop} (R : Room A m) (S : St e nm L g h vals news) (k : ∀ h', St e nm L g h' vals news → swpK (model prog w) A [c, b, a] env [v3, v2, v1] (fun _ => Q .next) E ⟨h', gs, dr, tk, os⟩) :
    wpAny (model prog w) A (newTuple [v1, v2, v3]) (SwpK (model prog w) A [a, b, c] env Q E) E ⟨h, gs, dr, tk, os⟩ := r_swap R S rfl k rfl rfl (by rw [sizeLine_eq]; simp)
theorem x_join {M : Model} {st : Stmt} {rest : List Stmt} {env : Env} {Q : Flow → Shared → Prop} {s : Shared} (Mid : Shared → Prop) (h1 : OpAll (fun fl s' => fl = .next ∧ Mid s') fun T => wpAny M A (exec st env) T nE s) (h2 : ∀ s', Mid s' → wpAny M A (execs rest env) Q nE s') : wpAny M A (execs (st :: rest) env) Q nE s :=
  wpAny_execs_cons (wpAny_mono h1.go (fun f s' z => by obtain ⟨rfl, z⟩ := z; exact h2 s' z) fun _ _ z => z.elim)
theorem IntsAt.nil0 {h a} (x : IntsAt h a []) : LstAt h a [] := by
  obtain ⟨vs, h1, h2, h3⟩ := x.has
  cases h2
  exact h1
theorem r_for0I {target : Expr} {body : List Stmt} {env : Env} {r : Addr} {Q : Flow → Shared → Prop} (R : Room A m) (S : St e nm L g h vals news) (hr : IntsAt g r []) (k : ∀ h' tk', St e nm L g h' vals news → Q .next ⟨h', gs, dr, tk', os⟩) :
    ForK prog w A target body env Q (.ref r) ⟨h, gs, dr, tk, os⟩ := r_for0 R S hr.nil0 k
theorem r_marks {target : Expr} {body : List Stmt} {env : Env} {r rw b : Addr} {orw : Obj} {ms : List Mk} {marks : List (Addr × Obj)} {Q : Flow → Shared → Prop} (R : Room A m) (S : St e nm L g h vals ((rw, orw) :: marks)) (hm : MksO w.params b ms marks) (hr : IntsAt g r (ms.map (·.num))) (f : Mk → Int) (V : List (Option Value) → Prop) (hV : V vals)
    (step : ∀ m o rest g1 h1 tk1 vals1 t, m ∈ ms → Le g g1 → V vals1 → MkO w.params b m o → St e nm L g1 h1 vals1 ((m.dx, o) :: (rw, orw) :: rest) →
      OpAll (fun fl s' => Ex5 fun h' tk' vals' o' g' => An6 (fl = .next) (s' = ⟨h', gs, dr, tk', os⟩) (Le g1 g') (St e nm L g' h' vals' ((m.dx, o') :: (rw, orw) :: rest)) (V vals') (MkO w.params b (m.to (f m)) o')) fun T => wpAny (model prog w) A (assign target env (.int m.num t)) (fun _ s2 => wpAny (model prog w) A (execs body env) T nE s2) nE ⟨h1, gs, dr, tk1, os⟩)
    (done : ∀ g1 h1 tk1 vals1 marks', Le g g1 → St e nm L g1 h1 vals1 ((rw, orw) :: marks') → MksO w.params b (ms.map fun m => m.to (f m)) marks' → V vals1 → Q .next ⟨h1, gs, dr, tk1, os⟩) :
    ForK prog w A target body env Q (.ref r) ⟨h, gs, dr, tk, os⟩ := by
  obtain ⟨vs, hl, hi, hlen⟩ := hr.has
  refine r_forL R S hl (fun i g1 vals1 news1 => ∃ l1, news1 = (rw, orw) :: l1 ∧ V vals1 ∧ MksO w.params b ((ms.take i).map (fun m => m.to (f m)) ++ ms.drop i) l1) ⟨marks, rfl, hV, hm⟩ ?_ ?_
  · rintro i v g1 h1 tk1 vals1 news1 own1 hv hle ⟨l1, rfl, hV1, hm1⟩ S1
    have hlt : i < ms.length := by
      have := (List.getElem?_eq_some_iff.mp hv).1
      rw [hlen] at this; simpa using this
    have hd : ms.drop i = ms[i] :: ms.drop (i + 1) := List.drop_eq_getElem_cons hlt
    rw [hd] at hm1
    obtain ⟨a, k, rfl, ha, hk⟩ := hm1.split
    cases hk with
    | @cons _ _ o k ho hk =>
      obtain ⟨t, rfl⟩ : ∃ t, v = .int ms[i].num t := by
        have e1 : (ms.map (·.num))[i]? = some ms[i].num := by simp [hlt]
        obtain ⟨n, t, rfl, e2⟩ := hi.at i v hv
        rw [e1] at e2
        cases e2
        exact ⟨t, rfl⟩
      have S2 := S1.perm (news' := (ms[i].dx, o) :: (rw, orw) :: (a ++ k ++ own1)) (by
        have : ((rw, orw) :: (a ++ (ms[i].dx, o) :: k) ++ own1).Perm ((rw, orw) :: (ms[i].dx, o) :: (a ++ k ++ own1)) := by
          refine .cons _ ?_
          show ((a ++ (ms[i].dx, o) :: k) ++ own1).Perm ((ms[i].dx, o) :: (a ++ k ++ own1))
          rw [List.append_assoc, List.append_assoc]
          exact List.perm_middle
        exact this.trans (.swap _ _ _))
      refine OpAll.all fun T hT => ?_
      refine wpAny_mono (step ms[i] o (a ++ k ++ own1) g1 h1 tk1 vals1 t (List.getElem_mem hlt) hle hV1 ho S2).go (fun _ s2 z => wpAny_mono z (fun fl s' z => ?_) fun _ _ z => z.elim) fun _ _ z => z.elim
      obtain ⟨h', tk', vals', o', g', rfl, rfl, hle', S3, hV', ho'⟩ := z
      refine hT _ _ ?_
      refine ⟨g', h', tk', vals', (rw, orw) :: (a ++ (ms[i].dx, o') :: k), rfl, hle', S3.perm ?_, a ++ (ms[i].dx, o') :: k, rfl, hV', ?_⟩
      · have : ((rw, orw) :: (ms[i].dx, o') :: (a ++ k ++ own1)).Perm ((rw, orw) :: (a ++ (ms[i].dx, o') :: k) ++ own1) := by
          refine .cons _ ?_
          show ((ms[i].dx, o') :: (a ++ k ++ own1)).Perm ((a ++ (ms[i].dx, o') :: k) ++ own1)
          rw [List.append_assoc, List.append_assoc]
          exact List.perm_middle.symm
        exact (List.Perm.swap _ _ _).trans this
      · rw [List.take_succ_eq_append_getElem hlt, List.map_append, List.append_assoc]
        exact ha.app (.cons ho' hk)
  · rintro g1 h1 tk1 vals1 news1 hle S1 ⟨l1, rfl, hV1, hm1⟩
    refine done g1 h1 tk1 vals1 l1 hle S1 ?_ hV1
    have e1 : vs.length = ms.length := by rw [hlen]; simp
    rw [e1, List.take_length, List.drop_length, List.append_nil] at hm1
    exact hm1
end
theorem sub_of_mem {W news : List (Addr × Obj)} (h : ∀ p ∈ W, p.1 ∈ news.map (·.1)) : ∀ b ∈ W.map (·.1), b ∈ news.map (·.1) := fun b hb => by
  obtain ⟨p, hp, rfl⟩ := List.mem_map.mp hb
  exact h p hp
end Mine
namespace Mine

/-! pairs of ints, and lists of them -/
noncomputable def PrAt (g : Heap) (v : Value) (p : Int × Int) : Prop := ∃ T t u, v = .ref T ∧ TupAt g T [.int p.1 t, .int p.2 u]
theorem PrAt.le {g h v p} (x : PrAt g v p) (k : Le g h) : PrAt h v p := let ⟨T, t, u, a, b⟩ := x; ⟨T, t, u, a, b.le k⟩
inductive LsAre {α : Type} (R : Heap → Value → α → Prop) (g : Heap) : List Value → List α → Prop
  | nil : LsAre R g [] []
  | cons {v a vs as} : R g v a → LsAre R g vs as → LsAre R g (v :: vs) (a :: as)
section
variable {α : Type} {R : Heap → Value → α → Prop} {g h : Heap} {vs us : List Value} {as bs : List α}
theorem LsAre.le (x : LsAre R g vs as) (hR : ∀ v a, R g v a → R h v a) : LsAre R h vs as := by
  induction x with
  | nil => exact .nil
  | cons a _ ih => exact .cons (hR _ _ a) ih
theorem LsAre.app (x : LsAre R g vs as) (y : LsAre R g us bs) : LsAre R g (vs ++ us) (as ++ bs) := by
  induction x with
  | nil => exact y
  | cons a _ ih => exact .cons a ih
theorem LsAre.one {v a} (x : R g v a) : LsAre R g [v] [a] := .cons x .nil
theorem LsAre.length (x : LsAre R g vs as) : vs.length = as.length := by
  induction x with
  | nil => rfl
  | cons _ _ ih => simp [ih]
theorem LsAre.get (x : LsAre R g vs as) : ∀ {i : Nat} {a : α}, as[i]? = some a → ∃ v, vs[i]? = some v ∧ R g v a := by
  induction x with
  | nil => intro i a h; simp at h
  | cons r _ ih =>
    intro i a h
    cases i with
    | zero => simp at h; subst h; exact ⟨_, rfl, r⟩
    | succ i => simpa using ih (by simpa using h)
theorem LsAre.at (x : LsAre R g vs as) : ∀ {i : Nat} {v : Value}, vs[i]? = some v → ∃ a, as[i]? = some a ∧ R g v a := by
  induction x with
  | nil => intro i a h; simp at h
  | cons r _ ih =>
    intro i a h
    cases i with
    | zero => simp at h; subst h; exact ⟨_, rfl, r⟩
    | succ i => simpa using ih (by simpa using h)
theorem LsAre.rev (x : LsAre R g vs as) : LsAre R g vs.reverse as.reverse := by
  induction x with
  | nil => exact .nil
  | cons a _ ih => rw [List.reverse_cons, List.reverse_cons]; exact ih.app (.one a)
end
theorem LsAre.prle {g h vs} {ps : List (Int × Int)} (x : LsAre PrAt g vs ps) (k : Le g h) : LsAre PrAt h vs ps := x.le fun _ _ y => y.le k

/-! where the words stand -/
noncomputable def blank (x : Int) : Bool := decide (x ∈ ([9, 10, 32] : List Int))
noncomputable def wlen : List Int → Nat
  | [] => 0
  | x :: r => if blank x then 0 else 1 + wlen r
theorem wlen_le : ∀ l, wlen l ≤ l.length
  | [] => Nat.le_refl _
  | x :: r => by unfold wlen; have := wlen_le r; split <;> simp only [List.length_cons] <;> (first | lia | omega)
noncomputable def spansF : Nat → Nat → List Int → List (Int × Int)
  | 0, _, _ => []
  | _ + 1, _, [] => []
  | n + 1, k, x :: r => if blank x then spansF n (k + 1) r else ((k : Int), ((k + wlen (x :: r) : Nat) : Int)) :: spansF n (k + wlen (x :: r)) (r.drop (wlen r))
noncomputable def spans (k : Nat) (l : List Int) : List (Int × Int) := spansF l.length k l
theorem spansF_nil : ∀ n k, spansF n k [] = []
  | 0, _ => rfl
  | _ + 1, _ => rfl
theorem spansF_two : ∀ (n m : Nat) (l : List Int) (k : Nat), l.length ≤ n → l.length ≤ m → spansF n k l = spansF m k l
  | n, m, [], k, _, _ => by rw [spansF_nil, spansF_nil]
  | 0, _, _ :: _, _, h, _ => absurd h (Nat.not_succ_le_zero _)
  | _ + 1, 0, _ :: _, _, _, h => absurd h (Nat.not_succ_le_zero _)
  | n + 1, m + 1, x :: r, k, h, h' => by
    have hd : (r.drop (wlen r)).length ≤ r.length := by rw [List.length_drop]; exact Nat.sub_le ..
    have h1 := Nat.le_of_succ_le_succ h
    have h2 := Nat.le_of_succ_le_succ h'
    simp only [spansF, spansF_two n m r _ h1 h2, spansF_two n m _ _ (Nat.le_trans hd h1) (Nat.le_trans hd h2)]
theorem spans_nil {k : Nat} : spans k [] = [] := rfl
theorem spans_cons {k : Nat} {x : Int} {r : List Int} : spans k (x :: r) = if blank x then spans (k + 1) r else ((k : Int), ((k + wlen (x :: r) : Nat) : Int)) :: spans (k + wlen (x :: r)) (r.drop (wlen r)) := by
  have hd : (r.drop (wlen r)).length ≤ r.length := by rw [List.length_drop]; exact Nat.sub_le ..
  have e := spansF_two r.length (r.drop (wlen r)).length (r.drop (wlen r)) (k + wlen (x :: r)) hd (Nat.le_refl _)
  show (if blank x then spansF r.length (k + 1) r else _ :: spansF r.length (k + wlen (x :: r)) (r.drop (wlen r))) = _
  rw [e]
  rfl
theorem drop_at {l : List Int} {k : Nat} (h : k < l.length) : l.drop k = l.getD k 0 :: l.drop (k + 1) := by
  rw [List.drop_eq_getElem_cons h]; simp [h]
theorem wlen_step {l : List Int} {k : Nat} (h : k < l.length) (hb : ¬ l.getD k 0 ∈ ([9, 10, 32] : List Int)) : wlen (l.drop k) = 1 + wlen (l.drop (k + 1)) := by
  rw [drop_at h]
  have : blank (l.getD k 0) = false := by unfold blank; simpa using hb
  rw [wlen, this]; simp
theorem wlen_stop {l : List Int} {k : Nat} (hb : k < l.length → l.getD k 0 ∈ ([9, 10, 32] : List Int)) : wlen (l.drop k) = 0 := by
  by_cases h : k < l.length
  · rw [drop_at h]
    have : blank (l.getD k 0) = true := by unfold blank; simpa using hb h
    rw [wlen, this]; simp
  · rw [List.drop_eq_nil_of_le (by (first | lia | omega))]; rfl
theorem spans_end {l : List Int} {k : Nat} (h : l.length ≤ k) : spans k (l.drop k) = [] := by rw [List.drop_eq_nil_of_le h, spans_nil]
theorem spans_word {l : List Int} {k j : Nat} (hw : wlen (l.drop k) = j - k) (hj : k < j) : spans k (l.drop k) = ((k : Int), (j : Int)) :: spans j (l.drop j) := by
  by_cases h : k < l.length
  · have e := drop_at h
    rw [e] at hw ⊢
    by_cases hb : blank (l.getD k 0) = true
    · rw [wlen, hb] at hw; simp at hw; (first | lia | omega)
    · rw [wlen, if_neg hb] at hw
      rw [spans_cons, if_neg hb, wlen, if_neg hb, List.drop_drop, show k + (1 + wlen (l.drop (k + 1))) = j by (first | lia | omega), show k + 1 + wlen (l.drop (k + 1)) = j by (first | lia | omega)]
  · rw [List.drop_eq_nil_of_le (by (first | lia | omega))] at hw
    simp [wlen] at hw; (first | lia | omega)
theorem spans_blank {l : List Int} {k : Nat} (hw : wlen (l.drop k) = 0) (h : k < l.length) : spans k (l.drop k) = spans (k + 1) (l.drop (k + 1)) := by
  rw [drop_at h] at hw ⊢
  by_cases hb : blank (l.getD k 0) = true
  · rw [spans_cons, if_pos hb]
  · rw [wlen, if_neg hb] at hw; (first | lia | omega)
theorem spans_nn : ∀ (n k : Nat) (l : List Int), l.length ≤ n → ∀ p ∈ spans k l, 0 ≤ p.1 ∧ 0 ≤ p.2
  | 0, k, l, h, p, hp => by
    rw [List.eq_nil_of_length_eq_zero (Nat.le_zero.mp h), spans_nil] at hp
    cases hp
  | n + 1, k, [], h, p, hp => by rw [spans_nil] at hp; cases hp
  | n + 1, k, x :: r, h, p, hp => by
    rw [spans_cons] at hp
    simp only [List.length_cons] at h
    split at hp
    · exact spans_nn n _ r (by (first | lia | omega)) p hp
    · rcases List.mem_cons.mp hp with rfl | hp
      · exact ⟨Int.natCast_nonneg _, Int.natCast_nonneg _⟩
      · exact spans_nn n _ _ (by rw [List.length_drop]; (first | lia | omega)) p hp
theorem spans_few : ∀ (n k : Nat) (l : List Int), l.length ≤ n → (spans k l).length ≤ n
  | 0, k, l, h => by
    rw [List.eq_nil_of_length_eq_zero (Nat.le_zero.mp h), spans_nil]
    exact Nat.le_refl _
  | n + 1, k, [], h => by rw [spans_nil]; exact Nat.zero_le _
  | n + 1, k, x :: r, h => by
    rw [spans_cons]
    simp only [List.length_cons] at h
    split
    · exact Nat.le_succ_of_le (spans_few n _ r (by (first | lia | omega)))
    · exact Nat.succ_le_succ (spans_few n _ _ (by rw [List.length_drop]; (first | lia | omega)))

/-! which words are kept -/
abbrev Qd := (Int × Int) × (Int × Int)
noncomputable def QdAt (g : Heap) (v : Value) (q : Qd) : Prop := ∃ T u1 u2, v = .ref T ∧ TupAt g T [u1, u2] ∧ PrAt g u1 q.1 ∧ PrAt g u2 q.2
theorem QdAt.le {g h v q} (x : QdAt g v q) (k : Le g h) : QdAt h v q := let ⟨T, u1, u2, a, b, c, d⟩ := x; ⟨T, u1, u2, a, b.le k, c.le k, d.le k⟩
theorem LsAre.qdle {g h vs} {ps : List Qd} (x : LsAre QdAt g vs ps) (k : Le g h) : LsAre QdAt h vs ps := x.le fun _ _ y => y.le k
noncomputable def wordsOf (l : List Int) (ps : List (Int × Int)) : List (List Int) := ps.map fun p => sl l p.1 p.2
noncomputable def srchF (A : List (List Int)) (b : List Int) : Nat → Nat → Nat
  | 0, p => p
  | k + 1, p => if A.getD p [] ≠ b then srchF A b k (p + 1) else p
noncomputable def srch (A : List (List Int)) (lim : Nat) (b : List Int) (place : Nat) : Nat := srchF A b (lim - place) place
noncomputable def kept (A : List (List Int)) (sa : List (Int × Int)) (new : List Int) (at_ : Nat) : List (Int × Int) → List Qd
  | [] => []
  | q :: r => if srch A (min A.length (at_ + 4)) (sl new q.1 q.2) at_ < min A.length (at_ + 4) then (sa.getD (srch A (min A.length (at_ + 4)) (sl new q.1 q.2) at_) (0, 0), q) :: kept A sa new (srch A (min A.length (at_ + 4)) (sl new q.1 q.2) at_ + 1) r else kept A sa new at_ r
noncomputable def keptW (old new : List Int) : List Qd := kept (wordsOf old (spans 0 old)) (spans 0 old) new 0 (spans 0 new)
theorem srch_go {A : List (List Int)} {lim : Nat} {b : List Int} {p : Nat} (h : p < lim) (hb : A.getD p [] ≠ b) : srch A lim b p = srch A lim b (p + 1) := by
  unfold srch
  rw [show lim - p = lim - (p + 1) + 1 by (first | lia | omega)]
  exact if_pos hb
theorem srch_stop {A : List (List Int)} {lim : Nat} {b : List Int} {p : Nat} (h : p < lim → A.getD p [] = b) : srch A lim b p = p := by
  unfold srch
  cases hk : lim - p with
  | zero => rfl
  | succ k => exact if_neg fun z => z (h (Nat.lt_of_sub_eq_succ hk))
theorem wordsOf_getD {l : List Int} {ps : List (Int × Int)} {i : Nat} (h : i < ps.length) : (wordsOf l ps).getD i [] = sl l (ps.getD i (0, 0)).1 (ps.getD i (0, 0)).2 := by
  unfold wordsOf
  simp [h]
/-! edits -/
structure Edit where
  f : Int
  l : Int
  own : List Int
noncomputable def EdAt (g : Heap) (v : Value) (x : Edit) : Prop := ∃ T t u r, v = .ref T ∧ TupAt g T [.int x.f t, .int x.l u, .ref r] ∧ IntsAt g r x.own
theorem EdAt.le {g h v x} (y : EdAt g v x) (k : Le g h) : EdAt h v x := let ⟨T, t, u, r, a, b, c⟩ := y; ⟨T, t, u, r, a, b.le k, c.le k⟩
theorem LsAre.edle {g h vs} {ps : List Edit} (x : LsAre EdAt g vs ps) (k : Le g h) : LsAre EdAt h vs ps := x.le fun _ _ y => y.le k
structure Nar (old : List Int) (s e : Int) (codes : List Int) (x : Edit) : Prop where
  in1 : s ≤ x.f ∧ x.f ≤ x.l ∧ x.l ≤ e
  fits : (x.f - s) + (e - x.l) ≤ codes.length
  own : x.own = sl codes (x.f - s) (codes.length - (e - x.l))
  ahead : ∀ i : Nat, (i : Int) < x.f - s → old.getD (s + i).toNat 0 = codes.getD ((i : Int)).toNat 0
  behind : ∀ i : Nat, (i : Int) < e - x.l → old.getD (e - i - 1).toNat 0 = codes.getD ((codes.length : Int) - i - 1).toNat 0
inductive EdR (old new : List Int) : Int → Int → List Qd → List Edit → Prop
  | nil {a p} : EdR old new a p [] []
  | same {a p q r E} : sl old a q.1.1 = sl new p q.2.1 → EdR old new q.1.2 q.2.2 r E → EdR old new a p (q :: r) E
  | edit {a p q r x E} : sl old a q.1.1 ≠ sl new p q.2.1 → Nar old a q.1.1 (sl new p q.2.1) x → EdR old new q.1.2 q.2.2 r E → EdR old new a p (q :: r) (x :: E)
noncomputable def segs (old new : List Int) : List Qd := keptW old new ++ [(((old.length : Int), (old.length : Int)), ((new.length : Int), (new.length : Int)))]
noncomputable def Chn (n : Int) : Int → List Qd → Prop
  | _, [] => True
  | a, q :: r => a ≤ q.1.1 ∧ q.1.1 ≤ q.1.2 ∧ q.1.2 ≤ n ∧ 0 ≤ q.2.1 ∧ 0 ≤ q.2.2 ∧ Chn n q.1.2 r
section
variable {e : Ent} {nm gl : List Str} {L : Addr} {g h0 : Heap} {vals vals' : List (Option Value)} {news : List (Addr × Obj)} {prog : Program} {w : World} {A : Around} {E : Value → Shared → Prop} {gs : Array GenState} {dr : Drawn} {tk : Nat} {os : OsState}
theorem r_addLm {l m : Addr} {vs us : List Value} {Q : Value → Shared → Prop} (S : St e nm L g h0 vals news) (hl : LstAt h0 l vs) (hm : LstAt h0 m us) (hz : vs.length + us.length ≤ 2 ^ 20)
    (h : ∀ r h' g', Le g g' → LstAt g' r (vs ++ us) → St e nm L g' h' vals news → Q (.ref r) ⟨h', gs, dr, tk, os⟩) : wpAny (model prog w) A (binaryOp .Add (.ref l) (.ref m)) Q E ⟨h0, gs, dr, tk, os⟩ := by
  obtain ⟨n, q1⟩ := hl.isL
  obtain ⟨n', q2⟩ := hm.isL
  obtain ⟨g', k1, k2, k3⟩ := S.pushI { cls := .type "list", data := .seq (vs.toArray ++ us.toArray) } rfl
  refine PySem.P.add_list (s := ⟨h0, gs, dr, tk, os⟩) q1 q2 ?_ (by rw [List.size_toArray, List.size_toArray, sizeLine_eq]; (first | lia | omega))
  exact h _ _ g' k1 ⟨_, k2, 0, by simp⟩ k3
theorem r_neg {a : Int} {t : Tok} {Q : Value → Shared → Prop} (h : Q (.int (-a) tk) ⟨h0, gs, dr, tk + 1, os⟩) : wpAny (model prog w) A (unaryOp .USub (.int a t)) Q E ⟨h0, gs, dr, tk, os⟩ := PyProof.Rows.neg_int h
theorem r_rev {l sa : Addr} {vs : List Value} {u : Tok} {value slice : Expr} {ops : List Value} {Q : Value → Shared → Prop} (S : St e nm L g h0 vals news) (hl : LstAt h0 l vs) (hs : SlcAt h0 sa .none .none (.int (-1) u)) (hz : vs.length ≤ 2 ^ 20)
    (h : ∀ r h' g', Le g g' → LstAt g' r vs.reverse → St e nm L g' h' vals news → Q (.ref r) ⟨h', gs, dr, tk, os⟩)
    (hsub : subscripted slice false (.ref l) (.ref sa) = operate ops (getItem (.ref l) (.ref sa)) := by with_unfolding_all rfl) : wpAny (model prog w) A (subscriptTail value slice (.ref l) (.ref sa)) Q E ⟨h0, gs, dr, tk, os⟩ := by
  obtain ⟨g', k1, k2, k3⟩ := S.pushI { cls := .type "list", data := .seq vs.reverse.toArray } rfl
  refine tail_any hl.isList.typeIs slot_list_getitem.lookup (wpAny_getItem_list_slice hl.isList hs.is .none .none (.int (-1) u) (by simp) ?_ (by rw [List.size_toArray, sizeLine_eq]; (first | lia | omega))) hsub
  rw [krv_pick]
  exact h _ _ g' k1 ⟨_, k2, 0, rfl⟩ k3
end
theorem x_mid {M : Model} {A : Around} {t : Sem Flow} {Q : Flow → Shared → Prop} {s : Shared} (Mid : Shared → Prop) (h1 : OpAll (fun fl s' => fl = .next ∧ Mid s') fun T => wpAny M A t T nE s) (h2 : ∀ s', Mid s' → Q .next s') : wpAny M A t Q nE s :=
  wpAny_mono h1.go (fun f s' z => by obtain ⟨rfl, z⟩ := z; exact h2 s' z) fun _ _ z => z.elim
end Mine
namespace Mine

/-! frames with cells, and the frames of list displays -/
structure EnvIs (env : Env) (nm gl : List Str) (cl : List (Str × Addr)) (L : Addr) : Prop where
  fn : env.scope.kind = .function
  loc : ∀ x ∈ nm, env.kindOf x = some .local
  glo : ∀ x ∈ gl, env.kindOf x = some .globalImplicit
  cel : ∀ p ∈ cl, env.kindOf p.1 = some .cell ∧ env.cells.lookup p.1 = some p.2
  nodb : ∀ x ∈ nm ++ gl ++ cl.map (·.1), (x == ("__debug__" : Str)) = false
  nd : nm.Nodup
  lo : env.locals = L
  ge : env.globals = mainGlobals
  be : env.builtins = builtinsNs
noncomputable def CellAt (h : Heap) (c : Addr) (v : Value) : Prop := ∃ o, h.get? c = some o ∧ o.data = .cell (some v)
theorem CellAt.le {g h c v} (x : CellAt g c v) (k : Le g h) : CellAt h c v := let ⟨o, q, r⟩ := x; ⟨o, k _ _ q, r⟩
noncomputable def CellO (o : Obj) (v : Option Value) : Prop := o.data = .cell v

section
variable {K : Frag} {mg mb : Str → Option Value} {e : Ent} {nm gl : List Str} {cl : List (Str × Addr)} {L : Addr} {g h h0 : Heap} {vals vals' : List (Option Value)} {news : List (Addr × Obj)} {prog : Program} {w : World} {A : Around} {E : Value → Shared → Prop} {gs : Array GenState} {dr : Drawn} {tk : Nat} {os : OsState} {env : Env} {m : Nat}
theorem r_locE {M : Model} {x : Str} {pos : Pos} {v : Value} {Q : Value → Shared → Prop} (I : EnvIs env nm gl cl L) (S : St e nm L g h0 vals news) (ha : At nm vals x v) (k : Q v ⟨h0, gs, dr, tk, os⟩) : wpAny M A (eval (.Name x pos) env) Q E ⟨h0, gs, dr, tk, os⟩ :=
  wpAny_Name (wpAny_loadName_local I.fn (I.loc _ ha.mem) (by rw [I.lo]; exact S.ns) (ha.lk I.nd) k) (I.nodb _ (List.mem_append_left _ (List.mem_append_left _ ha.mem)))
theorem r_cellE {M : Model} {x : Str} {c : Addr} {pos : Pos} {v : Value} {Q : Value → Shared → Prop} (I : EnvIs env nm gl cl L) (hc : (x, c) ∈ cl) (ha : CellAt h0 c v) (k : Q v ⟨h0, gs, dr, tk, os⟩) : wpAny M A (eval (.Name x pos) env) Q E ⟨h0, gs, dr, tk, os⟩ :=
  wpAny_Name (wpAny_loadName_cell I.fn (I.cel _ hc).1 (I.cel _ hc).2 ha k) (I.nodb _ (List.mem_append_right _ (List.mem_map_of_mem hc)))
theorem r_globE {M : Model} {x : Str} {pos : Pos} {v : Value} {Q : Value → Shared → Prop} (I : EnvIs env nm gl cl L) (S : St e nm L g h0 vals news) (B : Base K e.G mg mb) (hx : x ∈ gl) (hg : GlobIs K x v) (k : Q v ⟨h0, gs, dr, tk, os⟩) : wpAny M A (eval (.Name x pos) env) Q E ⟨h0, gs, dr, tk, os⟩ := by
  have hd := I.nodb x (List.mem_append_left _ (List.mem_append_right _ hx))
  refine Calls.Name_function_global I.fn (I.glo x hx) ?_ hd
  have hk := S.Gkeep
  rcases hg with hg | ⟨hg, hb, hn⟩
  · exact Calls.loadGlobal_global (by rw [I.ge]; exact B.g.keeps hk) (mg_of B.X B.g hg) k
  · exact Calls.loadGlobal_builtin (by rw [I.ge]; exact B.g.keeps hk) (mg_none_of B.X B.g hg) (by rw [I.be]; exact B.b.keeps hk) ((B.bt x hn).trans hb) k
theorem r_storeE {M : Model} {x : Str} {v : Value} {Q : Unit → Shared → Prop} (I : EnvIs env nm gl cl L) (S : St e nm L g h0 vals news) (ha : SetAt nm vals x v vals')
    (k : ∀ h', St e nm L g h' vals' news → Q () ⟨h', gs, dr, tk + 1, os⟩) : wpAny M A (storeName env x v) Q E ⟨h0, gs, dr, tk, os⟩ :=
  wpAny_storeName_local (I.loc _ ha.mem) (by rw [I.lo]; exact S.ns) (fun h' hn hs => k h' (S.store (by rw [← ha.lk I.nd]; rw [I.lo] at hn; exact hn) (by rw [I.lo] at hs; exact hs)))
    (by rw [I.fn]; rfl)
theorem r_storeCE {M : Model} {put : Obj → List (Addr × Obj)} {x : Str} {c : Addr} {o : Obj} {v0 : Option Value} {v : Value} {Q : Unit → Shared → Prop} (I : EnvIs env nm gl cl L) (S : St e nm L g h0 vals news) (hc : (x, c) ∈ cl) (ho : CellO o v0) (u : ∀ o', Upd1 c o o' news (put o'))
    (k : ∀ h' o', CellO o' (some v) → St e nm L g h' vals (put o') → Q () ⟨h', gs, dr, tk, os⟩) : wpAny M A (storeName env x v) Q E ⟨h0, gs, dr, tk, os⟩ := by
  refine wpAny_storeName_cell I.fn (I.cel _ hc).1 (I.cel _ hc).2 ⟨o, S.at (u o).mem, ho⟩ fun h' hv hs => ?_
  obtain ⟨o', ho', hd'⟩ := hv
  have cL : L ≠ c := Ne.symm (S.Ln _ (u o).mem)
  exact k h' o' hd' (S.upd' (u o') (S.ns.at' fun o q => (hs.2 _ cL).trans q) (fun b y hb _ q => (hs.2 _ hb).trans q) ho')
theorem x_exprE {ex : Expr} {pos : Pos} {Q : Flow → Shared → Prop} (I : EnvIs env nm gl cl L) (k : wpAny (model prog w) A (eval ex env) (fun _ => Q .next) E ⟨h0, gs, dr, tk, os⟩) (hs : swapsWith ex none pos.line env = pure false := by rfl) : wpAny (model prog w) A (exec (.Expr ex pos) env) Q E ⟨h0, gs, dr, tk, os⟩ :=
  wpAny_Expr_any k (by unfold interactive; rw [I.fn]; rfl) hs

/-- an object that is out of sight changes -/
theorem St.letgo (S : St e nm L g h vals news) {h' : Heap} (hs : Heap.SameBut L h h') : Mem e g h' news := by
  have hk : ∀ b o, b ≠ L → h.get? b = some o → h'.get? b = some o := fun b o hb q => (hs.2 b hb).trans q
  refine ⟨fun b o q => hk b o (fun hb => ?_) (S.mem.keep b o q), fun p hp => ⟨hk _ _ (S.Ln p hp) (S.mem.hold p hp).1, (S.mem.hold p hp).2⟩, S.mem.nd, S.mem.base, fun b o q hw => hk b o (fun hb => ?_) (S.mem.kept b o q hw), S.mem.fresh, S.mem.own, fun b hb => ?_, S.mem.G0⟩
  · rw [hb, S.off] at q; cases q
  · rw [hb, S.Lf] at q; cases q
  · have hbl : b ≠ L := fun q => S.LW (q ▸ hb)
    rw [hs.2 b hbl]; exact S.mem.alive b hb

/-! list displays -/
noncomputable def CompK (prog : Program) (w : World) (A : Around) (elt iter : Expr) (x : Str) (px : Pos) (ifs : List Expr) (scope : Scope) (cs : List (Str × Addr)) (pos : Pos) (env : Env) (Q : Value → Shared → Prop) (E : Value → Shared → Prop) : Value → Shared → Prop := fun xv s₁ =>
  wpAny (model prog w) A (pyIter xv) (fun it s₂ => wpAny (model prog w) A (newList []) (fun acc s₃ => wpAny (model prog w) A (newFunctionEnv scope env.globals cs [] env.qual none .none (some env)) (fun cenv s₄ =>
    codeAny (model prog w) A (.compStart (.ListComp elt [⟨.Name x px, iter, ifs, 0⟩] scope pos) 0 it acc { cenv with scope := relabel scope env }) (compPost (model prog w) A E none Q acc cenv.locals) s₄) E s₃) E s₂) E s₁
theorem x_comp {elt iter : Expr} {x : Str} {px : Pos} {ifs : List Expr} {scope : Scope} {cs : List (Str × Addr)} {pos : Pos} {s : Shared} {Q : Value → Shared → Prop} (hclos : closureFor scope env = pure cs)
    (h : wpAny (model prog w) A (eval iter env) (CompK prog w A elt iter x px ifs scope cs pos env Q E) E s) (hkind : scope.kind = .function := by rfl) (hnames : (scope.names.all fun y => y.2 != .local || scope.names.lookup y.1 == some .local) = true := by rfl)
    (hs : ∀ x, foldedSetIterable iter env x = pure x := by intro _; rfl) : wpAny (model prog w) A (eval (.ListComp elt [⟨.Name x px, iter, ifs, 0⟩] scope pos) env) Q E s := by
  rw [eval_ListComp]
  refine wpAny_comprehension_free (use := none) rfl hs hclos hkind (fun y hy hl => ?_) h
  have := List.all_eq_true.mp hnames y hy
  rw [hl] at this
  simpa using this

/-- the end of a turn of a list display -/
noncomputable def compN (e' : Ent) (x : Str) (C : Addr) (g : Heap) (gs : Array GenState) (dr : Drawn) (os : OsState) (v : Value) (own : List (Addr × Obj)) (J : Nat → Heap → List Value → List (Addr × Obj) → Prop) (i : Nat) (ys : List Value) (s' : Shared) : Prop :=
  (Ex4 fun g' h' tk' news' => An4 (s' = ⟨h', gs, dr, tk', os⟩) (Le g g') (St e' [x] C g' h' [some v] (news' ++ own)) (J i g' ys news'))

theorem r_compG {elt iter : Expr} {x : Str} {px : Pos} {ifs : List Expr} {scope : Scope} {cs : List (Str × Addr)} {pos : Pos} {RR : Value → Addr → Result → Shared → Prop} {fp : List Addr} {n : Nat} {Pt : Nat → Value → Prop} {Sw : Nat → Heap → Prop} {oI : Obj}
    (W : Walks prog w A h.objs.size fp [h.objs.size] n Pt Sw) (S : St e nm L g h vals news) (hoI : oI.isFreed = false) (hfp : ∀ b ∈ fp, b = h.objs.size ∨ ∃ o, g.get? b = some o) (hlive : ∀ i h', Sw i h' → h'.get? h.objs.size ≠ none) (hst : Sw 0 (h.push oI)) (hn : n ≤ 1000)
    (hkind : scope.kind = .function) (hcell : (scope.names.all fun y => y.2 != .cell) = true) (hx : scope.names.lookup x = some .local)
    (J : Nat → Heap → List Value → List (Addr × Obj) → Prop) (h0 : J 0 g [] news)
    (step : ∀ i v C g1 h1 tk1 ys news1 own1, i < n → Pt i v → Le g g1 → J i g1 ys news1 → ys.length ≤ i → St (ent e.G h g news) [x] C g1 h1 [some v] (news1 ++ own1) →
      wpAny (model prog w) A (forIn ifs true fun c r => if r = true then do let ok ← isTrue c (compEnvC scope cs C env) (eval c (compEnvC scope cs C env)); pure (ForInStep.yield ok) else pure (ForInStep.yield r)) (fun ok s3 =>
        if ok = true then wpAny (model prog w) A (eval elt (compEnvC scope cs C env)) (fun y s4 => compN (ent e.G h g news) x C g1 gs dr os v own1 J (i + 1) (ys ++ [y]) s4) nE s3
        else compN (ent e.G h g news) x C g1 gs dr os v own1 J (i + 1) ys s3) nE ⟨h1, gs, dr, tk1, os⟩)
    (fin : ∀ D C g' h' tk' ys news' vx, D ≠ C → h.get? D = none → h.get? C = none → Le g g' → St (ent e.G h g news) [x] C g' h' [vx] (news' ++ [(D, LCg.lst ys)]) → J n g' ys news' → RR (.ref D) C (.ok .next) ⟨h', gs, dr, tk', os⟩) :
    wpAny (model prog w) A (newList []) (fun acc s₃ => wpAny (model prog w) A (newFunctionEnv scope env.globals cs [] env.qual none .none (some env)) (fun cenv s₄ =>
      codeAny (model prog w) A (.compStart (.ListComp elt [⟨.Name x px, iter, ifs, 0⟩] scope pos) 0 (.ref h.objs.size) acc { cenv with scope := relabel scope env }) (RR acc cenv.locals) s₄) nE s₃) nE ⟨h.push oI, gs, dr, tk, os⟩ := by
  have hcell' : ∀ y ∈ scope.names, y.2 ≠ .cell := fun y hy q => by
    have := List.all_eq_true.mp hcell y hy
    rw [q] at this; cases this
  have SI := S.push oI hoI
  refine wpAny_newObj_type (wpAny_newFunctionEnv hcell' (by intro y hy; simp at hy) (fun h₁ hns₁ hsb₁ => ?_) hkind)
  dsimp only at hns₁ hsb₁ ⊢
  generalize hH2 : (h.push oI).push { cls := .type "list", dict := none, data := .seq ([] : List Value).toArray } = H2 at hns₁ hsb₁ ⊢
  have hsI : (h.push oI).objs.size = h.objs.size + 1 := Heap.size_push ..
  have hC : H2.objs.size = h.objs.size + 2 := by rw [← hH2, Heap.size_push, hsI]
  have fI := get_none_size h
  have fD : (h.push oI).get? (h.push oI).objs.size = none := get_none_size _
  have above : ∀ k, h.get? (h.objs.size + k) = none := fun k => by
    cases q : h.get? (h.objs.size + k) with
    | none => rfl
    | some o => exact absurd (Heap.lt_size q) (Nat.not_lt.mpr (Nat.le_add_right _ _))
  have fDh : h.get? (h.push oI).objs.size = none := by rw [hsI]; exact above 1
  have fC : h.get? H2.objs.size = none := by rw [hC]; exact above 2
  have gnone : ∀ b, h.get? b = none → g.get? b = none := fun b hb => by
    cases q : g.get? b with
    | none => rfl
    | some o => rw [S.mem.keep _ _ q] at hb; cases hb
  have hDC : (h.push oI).objs.size ≠ H2.objs.size := by rw [hC, hsI]; exact Nat.ne_of_lt (Nat.lt_succ_self _)
  have hIC : h.objs.size ≠ H2.objs.size := by rw [hC]; exact Nat.ne_of_lt (Nat.lt_add_of_pos_right (by decide))
  have hID : h.objs.size ≠ (h.push oI).objs.size := by rw [hsI]; exact Nat.ne_of_lt (Nat.lt_succ_self _)
  have ne2 : ∀ b o, h.get? b = some o → b ≠ H2.objs.size := fun b o q e1 => by rw [e1, fC] at q; cases q
  have oldI : ∀ b o, (h.push oI).get? b = some o → b ≠ H2.objs.size → h₁.get? b = some o := fun b o q hb => hsb₁.extBut b o hb (Heap.get?_push_of_some _ (hH2 ▸ Heap.get?_push_of_some _ q))
  have old : ∀ b o, h.get? b = some o → h₁.get? b = some o := fun b o q => oldI b o (Heap.get?_push_of_some _ q) (ne2 b o q)
  have hacc : h₁.get? (h.push oI).objs.size = some (LCg.lst []) := hsb₁.extBut _ _ hDC (Heap.get?_push_of_some _ (hH2 ▸ Heap.get?_push_size _ rfl))
  have hIh : h₁.get? h.objs.size = some oI := oldI _ _ (Heap.get?_push_size _ hoI) hIC
  have holdW : ∀ p ∈ news, h.get? p.1 = some p.2 := fun p hp => (S.mem.hold p hp).1
  have hmemL : ∀ p ∈ (news ++ [((h.push oI).objs.size, LCg.lst [])]) ++ [(h.objs.size, oI)], p ∈ news ∨ p = ((h.push oI).objs.size, LCg.lst []) ∨ p = (h.objs.size, oI) := fun p hp => by
    simpa [or_assoc] using hp
  have S2 : St (ent e.G h g news) [x] H2.objs.size g h₁ [none] ((news ++ [((h.push oI).objs.size, LCg.lst [])]) ++ [(h.objs.size, oI)]) := by
    refine ⟨⟨fun b o q => old b o (S.mem.keep b o q), fun p hp => ?_, ?_, fun _ _ q => q, fun b o q _ => old b o q, fun _ _ q => .inl q, fun p hp => ?_, fun b hb q => ?_, fun b o q => S.mem.base b o (S.mem.G0 b o q)⟩, ?_, gnone _ fC, fun p hp e1 => ?_, ?_, fC, fun hw => ?_⟩
    · rcases hmemL p hp with hp | rfl | rfl
      · exact ⟨old _ _ (holdW p hp), (S.mem.hold p hp).2⟩
      · exact ⟨hacc, gnone _ fDh⟩
      · exact ⟨hIh, gnone _ fI⟩
    · rw [List.map_append, List.map_append, List.append_assoc, List.nodup_append]
      refine ⟨S.mem.nd, ?_, fun a ha b hb e1 => ?_⟩
      · simp only [List.map_cons, List.map_nil, List.cons_append, List.nil_append, List.nodup_cons, List.mem_cons, List.not_mem_nil, or_false, not_false_eq_true, List.nodup_nil, and_true]
        exact Ne.symm hID
      · obtain ⟨p, hp, rfl⟩ := List.mem_map.mp ha
        have z := holdW p hp
        simp only [List.map_cons, List.map_nil, List.cons_append, List.nil_append, List.mem_cons, List.not_mem_nil, or_false] at hb
        rcases hb with rfl | rfl
        · rw [e1, fDh] at z; cases z
        · rw [e1, fI] at z; cases z
    · rcases hmemL p hp with hp | rfl | rfl
      · exact .inl (List.mem_map_of_mem hp)
      · exact .inr fDh
      · exact .inr fI
    · obtain ⟨p, hp, rfl⟩ := List.mem_map.mp hb
      rw [old _ _ (holdW p hp)] at q; cases q
    · have : lkV [x] [none] = fun y => ([] : List (Str × Value)).reverse.lookup y := by
        funext y; simp only [lkV]; split <;> simp
      rw [this]; exact hns₁
    · rcases hmemL p hp with hp | rfl | rfl
      · exact ne2 _ _ (holdW p hp) e1
      · exact hDC e1
      · exact hIC e1
    · exact Nat.le_trans S.Gs (Nat.le_of_lt (Nat.lt_of_lt_of_le S.ns.lt (by rw [hC]; exact Nat.le_add_right _ _)))
    · obtain ⟨p, hp, e1⟩ := List.mem_map.mp hw
      exact ne2 _ _ (holdW p hp) e1
  have hst₁ : Sw 0 h₁ := W.frame _ _ _ hst fun b hb o q => oldI b o q (fun e1 => by
    rcases hfp b hb with rfl | ⟨o', q'⟩
    · exact hIC e1
    · exact ne2 _ _ (S.mem.keep _ _ q') e1)
  have nd1 : [h.objs.size].Nodup := List.nodup_cons.mpr ⟨List.not_mem_nil, List.nodup_nil⟩
  have hwr : ∀ b ∈ [h.objs.size], (ent e.G h g news).H.get? b = none ∧ b ≠ H2.objs.size ∧ b ∉ (ent e.G h g news).W := fun b hb => by
    rw [List.mem_singleton.mp hb]
    refine ⟨fI, hIC, fun hw => ?_⟩
    obtain ⟨p, hp, e1⟩ := List.mem_map.mp hw
    have z := holdW p hp
    rw [e1, fI] at z; cases z
  have loop : ∀ s₃ : Shared, s₃ = ⟨h₁, gs, dr, tk + ([] : List (Str × Value)).length, os⟩ →
      codeAny (model prog w) A (.compLoop (.ListComp elt [⟨.Name x px, iter, ifs, 0⟩] scope pos) 0 (.ref h.objs.size) (.ref (h.push oI).objs.size) (compEnvC scope cs H2.objs.size env))
        (RR (.ref (h.push oI).objs.size) H2.objs.size) s₃ := by
    rintro s₃ rfl
    refine codeAny_compLoop_tests
      (fun k s' => ∃ g' h' tk' i ys news' own' vx, s' = ⟨h', gs, dr, tk', os⟩ ∧ Le g g' ∧ Sw i h' ∧ St (ent e.G h g news) [x] H2.objs.size g' h' [vx] ((news' ++ [((h.push oI).objs.size, LCg.lst ys)]) ++ own') ∧ (∀ b ∈ [h.objs.size], ∀ o, h'.get? b = some o → (b, o) ∈ own') ∧ J i g' ys news' ∧ i ≤ n ∧ k = n + 1 - i ∧ ys.length ≤ i) ?_ (n + 1)
      ⟨g, h₁, _, 0, [], news, [(h.objs.size, oI)], none, rfl, Le.rfl, hst₁, S2, fun b hb o q => ?_, h0, Nat.zero_le _, rfl, Nat.le_refl _⟩
    · rintro k s' ⟨g', h', tk', i, ys, news', own', vx, rfl, hle, hst', S', hin', hJ, hi, rfl, hyl⟩
      by_cases hlt : i < n
      · refine W.item i _ _ _ hlt hst' fun v h₂ tk₂ hPv hst₂ hk₂ => ?_
        have S3 := S'.turn nd1 hin' hwr (h' := h₂) hk₂
        refine wpAny_assign_Name (wpAny_storeName_local (lookup_relabel_local hx) S3.ns (fun h₃ hn₃ hs₃ => ?_) (by simp [compEnvC, relabel, hkind]))
        have S4 : St (ent e.G h g news) [x] H2.objs.size g' h₃ [some v] ((news' ++ [((h.push oI).objs.size, LCg.lst ys)]) ++ ownOn [h.objs.size] h₂) := S3.store (by
          have e1 : (fun y => if y = x then some v else lkV [x] [vx] y) = lkV [x] [some v] := SetAt.here.lk (List.nodup_cons.mpr ⟨List.not_mem_nil, List.nodup_nil⟩)
          rw [← e1]; exact hn₃) hs₃
        have hst₃ : Sw (i + 1) h₃ := W.frame _ _ _ hst₂ fun b hb o q => hs₃.extBut b o (fun e1 => by
          rcases hfp b hb with rfl | ⟨o', q'⟩
          · exact hIC e1
          · exact ne2 _ _ (S.mem.keep _ _ q') e1) q
        rw [List.append_assoc] at S4
        have next : ∀ ys' s5, ys'.length ≤ i + 1 → compN (ent e.G h g news) x H2.objs.size g' gs dr os v ([((h.push oI).objs.size, LCg.lst ys')] ++ ownOn [h.objs.size] h₂) J (i + 1) ys' s5 → ∃ m, m < n + 1 - i ∧ ∃ g' h' tk' i ys news' own' vx, s5 = ⟨h', gs, dr, tk', os⟩ ∧ Le g g' ∧ Sw i h' ∧ St (ent e.G h g news) [x] H2.objs.size g' h' [vx] ((news' ++ [((h.push oI).objs.size, LCg.lst ys)]) ++ own') ∧ (∀ b ∈ [h.objs.size], ∀ o, h'.get? b = some o → (b, o) ∈ own') ∧ J i g' ys news' ∧ i ≤ n ∧ m = n + 1 - i ∧ ys.length ≤ i := by
          rintro ys' _ hyl' ⟨g5, h5, tk5, news5, rfl, hle5, S5, hJ5⟩
          have own5 : ∀ o, h₂.get? h.objs.size = some o → h5.get? h.objs.size = some o := fun o q => (S5.mem.hold (h.objs.size, o) (List.mem_append_right _ (List.mem_append_right _ (mem_ownOn.mpr ⟨.head _, q⟩)))).1
          have e23 : h₃.get? h.objs.size = h₂.get? h.objs.size := hs₃.2 _ hIC
          refine ⟨n + 1 - (i + 1), by (first | lia | omega), g5, h5, tk5, i + 1, ys', news5, ownOn [h.objs.size] h₂, some v, rfl, hle.trans hle5, W.frame _ _ _ hst₃ fun b hb o q => ?_, by rw [List.append_assoc]; exact S5, fun b hb o q => ?_, hJ5, hlt, rfl, hyl'⟩
          · rcases hfp b hb with rfl | ⟨o', ho'⟩
            · exact own5 o (by rw [← e23]; exact q)
            · have a := hle _ _ ho'
              have a2 := S4.mem.keep _ _ a
              rw [q] at a2
              cases a2
              exact S5.mem.keep _ _ (hle5 _ _ a)
          · rw [List.mem_singleton.mp hb] at q ⊢
            cases z : h₂.get? h.objs.size with
            | some o' =>
              have := own5 o' z
              rw [q] at this
              cases this
              exact mem_ownOn.mpr ⟨.head _, z⟩
            | none => exact absurd z (hlive _ _ hst₂)
        refine wpAny_mono (step i v H2.objs.size g' h₃ _ ys news' _ hlt hPv hle hJ hyl S4) (fun ok s5 z => ?_) fun _ _ z => z.elim
        cases ok with
        | false => exact next ys s5 (by (first | lia | omega)) z
        | true =>
          refine wpAny_mono z (fun y s6 z => ?_) fun _ _ z => z.elim
          obtain ⟨g6, h6, tk6, news6, rfl, hle6, S6, hJ6⟩ := z
          have hD6 := (S6.mem.hold ((h.push oI).objs.size, LCg.lst ys) (List.mem_append_right _ (.head _))).1
          refine append_at (hsz := by show ys.toArray.size ≤ sizeLine; rw [List.size_toArray, sizeLine_eq]; (first | lia | omega)) hD6 fun h₇ hs₇ hD₇ => ?_
          refine next (ys ++ [y]) _ (by rw [List.length_append]; simp only [List.length_cons, List.length_nil]; (first | lia | omega)) ⟨g6, h₇, tk6, news6, rfl, hle6, S6.upd' (Upd1.app (pre := news6)) (S6.ns.at' fun o q => (hs₇.2 _ (Ne.symm hDC)).trans q) (fun b y hb _ q => (hs₇.2 _ hb).trans q) (hD₇.trans (congrArg some (LCg.lst_snoc ys y))), hJ6⟩
      · obtain rfl : i = n := Nat.le_antisymm hi (Nat.not_lt.mp hlt)
        refine W.done _ _ _ hst' fun h₂ tk₂ hk₂ => ?_
        have S3 := (S'.turn nd1 hin' hwr (h' := h₂) hk₂).sublist (List.sublist_append_left _ _)
        exact fin _ _ g' h₂ tk₂ ys news' vx hDC fDh fC hle S3 hJ
    · rw [List.mem_singleton.mp hb] at q ⊢
      rw [hIh] at q
      cases q
      exact .head _
  exact codeAny_compStart_list (loop _ rfl) (W.self 0 _ _ _ hst₁ (loop _ rfl))
theorem r_compW {elt iter : Expr} {x : Str} {px : Pos} {ifs : List Expr} {scope : Scope} {cs : List (Str × Addr)} {pos : Pos} {Q : Value → Shared → Prop} {fp : List Addr} {n : Nat} {Pt : Nat → Value → Prop} {Sw : Nat → Heap → Prop} {oI : Obj}
    (W : Walks prog w A h.objs.size fp [h.objs.size] n Pt Sw) (S : St e nm L g h vals news) (hoI : oI.isFreed = false) (hfp : ∀ b ∈ fp, b = h.objs.size ∨ ∃ o, g.get? b = some o) (hlive : ∀ i h', Sw i h' → h'.get? h.objs.size ≠ none) (hst : Sw 0 (h.push oI)) (hn : n ≤ 1000)
    (hkind : scope.kind = .function) (hcell : (scope.names.all fun y => y.2 != .cell) = true) (hx : scope.names.lookup x = some .local)
    (J : Nat → Heap → List Value → List (Addr × Obj) → Prop) (hmono : ∀ i g g' ys l, Le g g' → J i g ys l → J i g' ys l) (h0 : J 0 g [] news)
    (step : ∀ i v C g1 h1 tk1 ys news1 own1, i < n → Pt i v → Le g g1 → J i g1 ys news1 → ys.length ≤ i → St (ent e.G h g news) [x] C g1 h1 [some v] (news1 ++ own1) →
      wpAny (model prog w) A (forIn ifs true fun c r => if r = true then do let ok ← isTrue c (compEnvC scope cs C env) (eval c (compEnvC scope cs C env)); pure (ForInStep.yield ok) else pure (ForInStep.yield r)) (fun ok s3 =>
        if ok = true then wpAny (model prog w) A (eval elt (compEnvC scope cs C env)) (fun y s4 => compN (ent e.G h g news) x C g1 gs dr os v own1 J (i + 1) (ys ++ [y]) s4) nE s3
        else compN (ent e.G h g news) x C g1 gs dr os v own1 J (i + 1) ys s3) nE ⟨h1, gs, dr, tk1, os⟩)
    (done : ∀ r g1 h1 tk1 ys news1, Le g g1 → LstAt g1 r ys → St e nm L g1 h1 vals news1 → J n g1 ys news1 → Q (.ref r) ⟨h1, gs, dr, tk1, os⟩) :
    wpAny (model prog w) A (newList []) (fun acc s₃ => wpAny (model prog w) A (newFunctionEnv scope env.globals cs [] env.qual none .none (some env)) (fun cenv s₄ =>
      codeAny (model prog w) A (.compStart (.ListComp elt [⟨.Name x px, iter, ifs, 0⟩] scope pos) 0 (.ref h.objs.size) acc { cenv with scope := relabel scope env }) (compPost (model prog w) A nE none Q acc cenv.locals) s₄) nE s₃) nE ⟨h.push oI, gs, dr, tk, os⟩ := by
  refine r_compG W S hoI hfp hlive hst hn hkind hcell hx J h0 step fun D C g' h₂ tk₂ ys news' vx hDC fDh fC hle S3 hJ => ?_
  refine ⟨_, S3.ns, fun h₃ hs₃ => ?_⟩
  have M := S3.letgo hs₃
  have S5 : St e nm L g h vals (news ++ []) := by rw [List.append_nil]; exact S
  obtain ⟨_, S6⟩ := S5.after M
  rw [List.append_nil] at S6
  have S7 := S6.perm (news' := (D, LCg.lst ys) :: news') (List.perm_append_singleton _ _)
  obtain ⟨g8, k1, k2, S8⟩ := S7.freeze (S.nofree fDh).2.1
  exact done _ g8 h₃ tk₂ ys news' (hle.trans k1) ⟨_, k2, ⟨_, rfl⟩⟩ S8 (hmono _ _ _ _ _ k1 hJ)
end
end Mine
namespace Mine

noncomputable def envB (sc : Scope) (nm gl cn : List Str) : Bool :=
  (sc.kind == .function) && nm.all (fun x => sc.names.lookup x == some .local) && gl.all (fun x => sc.names.lookup x == some .globalImplicit) && cn.all (fun x => sc.names.lookup x == some .cell) && (nm ++ gl ++ cn).all (fun x => !(x == ("__debug__" : Str))) && nodupB (nm.map (·.cps))
noncomputable def relabelS (scope outer : Scope) : Scope := { scope with names := scope.names.map fun (n, k) => if (k == .free && outer.kind == .function && outer.names.lookup n == some .cell) then (n, .cell) else (n, k) }
theorem EnvIs.of {env : Env} {nm gl : List Str} {cl : List (Str × Addr)} {L : Addr} (h : envB env.scope nm gl (cl.map (·.1)) = true) (hc : ∀ p ∈ cl, env.cells.lookup p.1 = some p.2) (lo : env.locals = L) (ge : env.globals = mainGlobals) (be : env.builtins = builtinsNs) : EnvIs env nm gl cl L := by
  simp only [envB, Bool.and_eq_true, List.all_eq_true, beq_iff_eq, Bool.not_eq_true'] at h
  exact ⟨h.1.1.1.1.1, fun x hx => h.1.1.1.1.2 x hx, fun x hx => h.1.1.1.2 x hx, fun p hp => ⟨h.1.1.2 _ (List.mem_map_of_mem hp), hc p hp⟩, fun x hx => h.1.2 x hx, nodupB_of h.2, lo, ge, be⟩
theorem EnvIs.ofC {name : Str} {scope : Scope} {L a c : Addr} {cd : Value} {x : Str} {nm gl : List Str} (h : envB scope nm gl [x] = true) (hc : (cellsFrom (L + 1) scope.names []).lookup x = some c) : EnvIs (envOfC name scope L a cd) nm gl [(x, c)] L :=
  EnvIs.of (env := envOfC name scope L a cd) (cl := [(x, c)]) h (fun p hp => by rw [List.mem_singleton.mp hp]; exact hc) rfl rfl rfl
theorem EnvIs.comp {env : Env} {scope outer : Scope} {cs : List (Str × Addr)} {C : Addr} {x : Str} {gl : List Str} {cl : List (Str × Addr)} (ho : env.scope = outer) (ge : env.globals = mainGlobals) (be : env.builtins = builtinsNs) (h : envB (relabelS scope outer) [x] gl (cl.map (·.1)) = true) (hc : ∀ p ∈ cl, cs.lookup p.1 = some p.2) : EnvIs (compEnvC scope cs C env) [x] gl cl C := by
  subst ho
  exact EnvIs.of (env := compEnvC scope cs C env) h hc rfl ge be

theorem EnvIs.comp' {env : Env} {scope outer : Scope} {cs : List (Str × Addr)} {C : Addr} {x : Str} {gl cn : List Str} {cl : List (Str × Addr)} (ho : env.scope = outer) (ge : env.globals = mainGlobals) (be : env.builtins = builtinsNs) (hcn : cl.map (·.1) = cn) (h : envB (relabelS scope outer) [x] gl cn = true) (hc : ∀ p ∈ cl, cs.lookup p.1 = some p.2) : EnvIs (compEnvC scope cs C env) [x] gl cl C :=
  EnvIs.comp ho ge be (hcn ▸ h) hc
theorem x_inC {M : Model} {A : Around} {elt : Expr} {Q : Value → Shared → Prop} {E : Value → Shared → Prop} {s : Shared} {nm : Str} {L a : Addr} {cd : Value} {scope outer : Scope} {cs : List (Str × Addr)} {C : Addr} {x : Str} {gl cn : List Str} {cl : List (Str × Addr)} (hcn : cl.map (·.1) = cn) (h : envB (relabelS scope outer) [x] gl cn = true) (hc : ∀ p ∈ cl, cs.lookup p.1 = some p.2)
    (k : EnvIs (compEnvC scope cs C (envOfC nm outer L a cd)) [x] gl cl C → wpAny M A (eval elt (compEnvC scope cs C (envOfC nm outer L a cd))) Q E s) : wpAny M A (eval elt (compEnvC scope cs C (envOfC nm outer L a cd))) Q E s := k (EnvIs.comp' rfl rfl rfl hcn h hc)
theorem x_inT {M : Model} {A : Around} {elt : Expr} {Q : Bool → Shared → Prop} {E : Value → Shared → Prop} {s : Shared} {nm : Str} {L a : Addr} {cd : Value} {scope outer : Scope} {cs : List (Str × Addr)} {C : Addr} {x : Str} {gl cn : List Str} {cl : List (Str × Addr)} (hcn : cl.map (·.1) = cn) (h : envB (relabelS scope outer) [x] gl cn = true) (hc : ∀ p ∈ cl, cs.lookup p.1 = some p.2)
    (k : EnvIs (compEnvC scope cs C (envOfC nm outer L a cd)) [x] gl cl C → wpAny M A (isTrue elt (compEnvC scope cs C (envOfC nm outer L a cd)) (eval elt (compEnvC scope cs C (envOfC nm outer L a cd)))) Q E s) : wpAny M A (isTrue elt (compEnvC scope cs C (envOfC nm outer L a cd)) (eval elt (compEnvC scope cs C (envOfC nm outer L a cd)))) Q E s := k (EnvIs.comp' rfl rfl rfl hcn h hc)

section
variable {K : Frag} {mg mb : Str → Option Value} {e : Ent} {nm gl : List Str} {L : Addr} {g h : Heap} {vals vals' : List (Option Value)} {news : List (Addr × Obj)} {prog : Program} {w : World} {A : Around} {gs : Array GenState} {dr : Drawn} {tk : Nat} {os : OsState} {env : Env} {m : Nat}
/-- over a range, no test -/
theorem r_compR {elt iter : Expr} {x : Str} {px : Pos} {scope : Scope} {cs : List (Str × Addr)} {pos : Pos} {Q : Value → Shared → Prop} {r : Addr} {n : Int} (R : Room A m) (S : St e nm L g h vals news) (hr : RngAt g r n) (hn : 0 ≤ n ∧ n ≤ 1000)
    (hkind : scope.kind = .function) (hcell : (scope.names.all fun y => y.2 != .cell) = true) (hx : scope.names.lookup x = some .local)
    (J : Nat → Heap → List Value → List (Addr × Obj) → Prop) (hmono : ∀ i g g' ys l, Le g g' → J i g ys l → J i g' ys l) (h0 : J 0 g [] news)
    (step : ∀ (i : Nat) t C g1 h1 tk1 ys news1 own1, (i : Int) < n → Le g g1 → J i g1 ys news1 → ys.length ≤ i → St (ent e.G h g news) [x] C g1 h1 [some (.int i t)] (news1 ++ own1) →
      wpAny (model prog w) A (eval elt (compEnvC scope cs C env)) (fun y s4 => compN (ent e.G h g news) x C g1 gs dr os (.int i t) own1 J (i + 1) (ys ++ [y]) s4) nE ⟨h1, gs, dr, tk1, os⟩)
    (done : ∀ r g1 h1 tk1 ys news1, Le g g1 → LstAt g1 r ys → St e nm L g1 h1 vals news1 → J n.toNat g1 ys news1 → Q (.ref r) ⟨h1, gs, dr, tk1, os⟩) :
    CompK prog w A elt iter x px [] scope cs pos env Q nE (.ref r) ⟨h, gs, dr, tk, os⟩ := by
  obtain ⟨t, u, v, hr⟩ := hr
  have hl := S.le _ _ hr
  have hsz : Builtin.Range.rangeSize 0 n 1 = ((n.toNat : Nat) : Int) := by rw [rangeSize_one]; split <;> (first | lia | omega)
  refine wpAny_pyIter_range hl (small_ok ⟨hn.1, by (first | lia | omega)⟩) ?_
  refine r_compW (Walks.range (prog := prog) (w := w) R.h h.objs.size 0 1 n.toNat) S rfl (fun b hb => .inl (List.mem_singleton.mp hb)) (fun i h' st => ?_) ?_ (by (first | lia | omega)) hkind hcell hx J hmono h0 (fun i v C g1 h1 tk1 ys news1 own1 hi hP hle hJ hyl S1 => ?_) done
  · have q : h'.get? _ = some _ := st
    rw [q]; exact fun z => by cases z
  · rw [hsz]
    show (h.push _).get? h.objs.size = some _
    rw [Heap.get?_push_size _ rfl]
    simp
  · obtain ⟨t, rfl⟩ := hP
    rw [Int.zero_add, Int.mul_one] at S1 ⊢
    refine wpAny_tests_nil ?_
    simp only [if_true]
    exact step i t C g1 h1 tk1 ys news1 own1 (by (first | lia | omega)) hle hJ hyl S1
/-- over a list that no longer changes; ifs as they stand -/
theorem r_compL {elt iter : Expr} {x : Str} {px : Pos} {ifs : List Expr} {scope : Scope} {cs : List (Str × Addr)} {pos : Pos} {Q : Value → Shared → Prop} {r : Addr} {vs : List Value} (R : Room A m) (S : St e nm L g h vals news) (hr : LstAt g r vs) (hn : vs.length ≤ 1000)
    (hkind : scope.kind = .function) (hcell : (scope.names.all fun y => y.2 != .cell) = true) (hx : scope.names.lookup x = some .local)
    (J : Nat → Heap → List Value → List (Addr × Obj) → Prop) (hmono : ∀ i g g' ys l, Le g g' → J i g ys l → J i g' ys l) (h0 : J 0 g [] news)
    (step : ∀ i v C g1 h1 tk1 ys news1 own1, vs[i]? = some v → Le g g1 → J i g1 ys news1 → ys.length ≤ i → St (ent e.G h g news) [x] C g1 h1 [some v] (news1 ++ own1) →
      wpAny (model prog w) A (forIn ifs true fun c r => if r = true then do let ok ← isTrue c (compEnvC scope cs C env) (eval c (compEnvC scope cs C env)); pure (ForInStep.yield ok) else pure (ForInStep.yield r)) (fun ok s3 =>
        if ok = true then wpAny (model prog w) A (eval elt (compEnvC scope cs C env)) (fun y s4 => compN (ent e.G h g news) x C g1 gs dr os v own1 J (i + 1) (ys ++ [y]) s4) nE s3
        else compN (ent e.G h g news) x C g1 gs dr os v own1 J (i + 1) ys s3) nE ⟨h1, gs, dr, tk1, os⟩)
    (done : ∀ r g1 h1 tk1 ys news1, Le g g1 → LstAt g1 r ys → St e nm L g1 h1 vals news1 → J vs.length g1 ys news1 → Q (.ref r) ⟨h1, gs, dr, tk1, os⟩) :
    CompK prog w A elt iter x px ifs scope cs pos env Q nE (.ref r) ⟨h, gs, dr, tk, os⟩ := by
  have hl : LstAt h r vs := hr.le S.le
  obtain ⟨o, ho, _⟩ := hl
  have hlt := Heap.lt_size ho
  have hl : LstAt h r vs := hr.le S.le
  refine wpAny_pyIter_list hl.isList ?_
  refine r_compW (Walks.list (prog := prog) (w := w) R.h h.objs.size r (Nat.ne_of_lt hlt) vs.toArray) S rfl (fun b hb => ?_) (fun i h' st => ?_) ⟨⟨_, Heap.get?_push_size _ rfl, rfl, rfl⟩, (hl.isList).push _⟩ (by simpa using hn) hkind hcell hx J hmono h0 (fun i v C g1 h1 tk1 ys news1 own1 hi hP hle hJ hyl S1 => step i v C g1 h1 tk1 ys news1 own1 (by simpa using hP) hle hJ hyl S1) (by simpa using done)
  · rcases List.mem_cons.mp hb with rfl | hb
    · exact .inl rfl
    · rw [List.mem_singleton.mp hb]
      obtain ⟨o, q, _⟩ := hr
      exact .inr ⟨o, q⟩
  · obtain ⟨o, q, _⟩ := st.1
    rw [q]; exact fun z => by cases z
end

section
variable {K : Frag} {G H g : Heap} {mg mb : Str → Option Value} {W : List (Addr × Obj)} {prog : Program} {w : World}
/-- a def whose one parameter is a cell, and that has no other names -/
theorem fn_def1C {f : Addr} {n : Nat} {v : Value} (cx : Str) (gl : List Str) {Post : Value → Heap → List (Addr × Obj) → Prop}
    {name qual : Str} {params : Arguments} {body : List Stmt} {scope : Scope} {dV kV doc pm cdv ct oc : Value} {an od : Option Addr} {osl : Array (Option Value)}
    (B : Base K G mg mb) (ho : K.lookup f = some ⟨oc, od, .func (fnOf name qual params body scope dV kV doc pm an cdv ct), osl⟩) (hcd : codeIn K cdv qual = true)
    (hbind : bindArgs (fnOf name qual params body scope dV kV doc pm an cdv ct) ⟨[v], []⟩ = pure [(cx, v)])
    (hc : ∀ L, (cellsFrom (L + 1) scope.names []).lookup cx = some (L + 1)) (sc : envB scope [] gl [cx] = true)
    (h : ∀ A h gs dr tk os L g', Room A n → Le g g' → CellAt g' (L + 1) v → EnvIs (envOfC qual scope L f cdv) [] gl [(cx, L + 1)] L → St (ent G H g W) [] L g' h [] W → OpAll (endK (ent G H g W) gs dr os Post) fun T => wpAny (model prog w) A (execs body (envOfC qual scope L f cdv)) T nE ⟨h, gs, dr, tk, os⟩)
    (hco : scope.isCoroutine = false := by rfl) (hgen : scope.isGenerator = false := by rfl) : Fn prog w (.ref f) (n + 1) [v] G H g W Post := by
  intro A gs dr tk os Q R P k
  generalize hs : (⟨H, gs, dr, tk, os⟩ : Shared) = s
  have hH : s.heap = H := by rw [← hs]
  subst hH
  have hG : Le G s.heap := fun b o q => P.gH b o (P.Gg b o q)
  have X := B.X.keeps hG
  have sc' := sc
  simp only [envB, Bool.and_eq_true, List.all_eq_true, beq_iff_eq, Bool.not_eq_true'] at sc'
  have hk : scope.kind = .function := sc'.1.1.1.1.1
  have hcx : scope.names.lookup cx = some .cell := sc'.1.1.2 cx (.head _)
  refine codeAny_call_cells (fd := fnOf name qual params body scope dV kV doc pm an cdv ct) (body := body) (binds := [(cx, v)]) (by have := R.d; (first | lia | omega)) (X _ _ ho) rfl (B.lim.keeps hG) (codeRec_of X hcd) rfl hbind rfl (fun y hy => ?_) (fun s₁ x => ?_) hco hgen hk
  · rw [List.mem_singleton.mp hy]
    exact .inr ⟨hcx, by show ((cellsFrom (s.heap.objs.size + 1) scope.names []).lookup cx).isSome = true; rw [hc]; rfl⟩
  obtain ⟨h₁, tk₁, rfl, hk₁⟩ := x.done
  have hL := get_none_size s.heap
  have hLc : s.heap.get? (s.heap.objs.size + 1) = none := by
    cases q : s.heap.get? (s.heap.objs.size + 1) with
    | none => rfl
    | some o => exact absurd (Heap.lt_size q) (Nat.not_lt.mpr (Nat.le_add_right _ _))
  have gnone : ∀ b, s.heap.get? b = none → g.get? b = none := fun b hb => by
    cases q : g.get? b with
    | none => rfl
    | some o => rw [P.gH _ _ q] at hb; cases hb
  have Wnone : ∀ b, s.heap.get? b = none → b ∉ W.map (·.1) := fun b hb hw => by
    obtain ⟨p, hp, e1⟩ := List.mem_map.mp hw
    have := (P.hold p hp).1
    rw [e1, hb] at this; cases this
  have hnl : ¬ scope.names.lookup cx = some .local := by rw [hcx]; decide
  have hns : h₁.Ns s.heap.objs.size (lkV [] []) := by
    have z := x.toInCall.ns
    have e1 : bindL (callEnvC (fnOf name qual params body scope dV kV doc pm an cdv ct) s.heap.objs.size f).kindOf [(cx, v)] (fun _ => none) = lkV [] [] := by
      unfold bindL
      rw [if_neg (show ¬ (callEnvC (fnOf name qual params body scope dV kV doc pm an cdv ct) s.heap.objs.size f).kindOf cx = some .local from hnl)]
      funext y; rfl
    rw [e1] at z
    exact z
  have hcellv : h₁.IsCell (s.heap.objs.size + 1) (some v) := by
    have z := x.cell cx (s.heap.objs.size + 1) (hc _)
    have e1 : bindC (callEnvC (fnOf name qual params body scope dV kV doc pm an cdv ct) s.heap.objs.size f).kindOf [(cx, v)] (fun _ => none) cx = some v := by
      unfold bindC
      rw [if_neg (show ¬ (callEnvC (fnOf name qual params body scope dV kV doc pm an cdv ct) s.heap.objs.size f).kindOf cx = some .local from hnl)]
      simp [bindC]
    rw [e1] at z
    exact z
  obtain ⟨oc1, hoc1, hdc1⟩ := hcellv
  have S₁ : St (ent G s.heap g W) [] s.heap.objs.size g h₁ [] ((s.heap.objs.size + 1, oc1) :: W) := by
    refine ⟨⟨fun b o q => hk₁ _ _ (P.gH b o q), fun p hp => ?_, List.nodup_cons.mpr ⟨Wnone _ hLc, P.nd⟩, fun _ _ q => q, fun b o q _ => hk₁ _ _ q, fun _ _ q => .inl q, fun p hp => ?_, fun b hb q => ?_, P.Gg⟩, hns, gnone _ hL, fun p hp e1 => ?_, P.Gs, hL, Wnone _ hL⟩
    · rcases List.mem_cons.mp hp with rfl | hp
      · exact ⟨hoc1, gnone _ hLc⟩
      · exact ⟨hk₁ _ _ (P.hold p hp).1, (P.hold p hp).2⟩
    · rcases List.mem_cons.mp hp with rfl | hp
      · exact .inr hLc
      · exact .inl (List.mem_map_of_mem hp)
    · obtain ⟨p, hp, rfl⟩ := List.mem_map.mp hb
      rw [hk₁ _ _ (P.hold p hp).1] at q; cases q
    · rcases List.mem_cons.mp hp with rfl | hp
      · exact absurd e1 (Nat.ne_of_gt (Nat.lt_succ_self _))
      · exact Wnone _ hL (e1 ▸ List.mem_map_of_mem hp)
  obtain ⟨g', l1, l2, S₂⟩ := S₁.freeze hLc
  have h2 := congrArg Shared.gens hs
  have h3 := congrArg Shared.drawn hs
  have h4 := congrArg Shared.os hs
  dsimp only at h2 h3 h4
  subst h2 h3 h4
  refine wpAny_mono (h _ h₁ _ _ _ _ s.heap.objs.size g' (R.deeper _) l1 ⟨oc1, l2, hdc1⟩ (EnvIs.ofC sc (hc _)) S₂).go (fun fl s' hl => ?_) fun _ _ z => z.elim
  obtain ⟨g', W', h', tk', rfl, M, hP⟩ := hl
  cases fl <;> exact k _ h' tk' g' W' M hP
end
end Mine
namespace Mine
section
variable {e : Ent} {nm gl : List Str} {L : Addr} {g h : Heap} {vals vals' : List (Option Value)} {news : List (Addr × Obj)} {prog : Program} {w : World} {A : Around} {gs : Array GenState} {dr : Drawn} {tk : Nat} {os : OsState} {m : Nat}
theorem r_enumFor {elts : List Expr} {k0 : Nat} {pos : Pos} {body : List Stmt} {env : Env} {l : Addr} {vs : List Value} {Q : Flow → Shared → Prop} (R : Room A m) (S : St e nm L g h vals news) (hr : LstAt g l vs)
    (P : Nat → Heap → List (Option Value) → List (Addr × Obj) → Prop) (h0 : P 0 g vals news)
    (step : ∀ (i : Nat) x t g1 h1 tk1 vals1 news1 own1, vs[i]? = some x → Le g g1 → P i g1 vals1 news1 → St e nm L g1 h1 vals1 (news1 ++ own1) →
      OpAll (turnK e nm L g1 gs dr os own1 P (i + 1) Q) fun T => asgK (model prog w) A elts env [.int i t, x] (fun _ s2 => wpAny (model prog w) A (execs body env) T nE s2) nE ⟨h1, gs, dr, tk1, os⟩)
    (done : ∀ g1 h1 tk1 vals1 news1, Le g g1 → St e nm L g1 h1 vals1 news1 → P vs.length g1 vals1 news1 → Q .next ⟨h1, gs, dr, tk1, os⟩)
    (hn : (assignEach elts env).length = 2 := by rfl) (hstar : (assignEach elts env).findIdx? (·.1) = none := by rfl) :
    wpAny (model prog w) A (call (.type "enumerate") [.ref l]) (ForK prog w A (.Tuple elts k0 pos) body env Q) nE ⟨h, gs, dr, tk, os⟩ := by
  have hl : LstAt h l vs := hr.le S.le
  obtain ⟨o, ho, _⟩ := hl
  have hlt := Heap.lt_size ho
  have hl : LstAt h l vs := hr.le S.le
  refine call_enumerate_list hl.isList fun h' hE hI hsz hk => ?_
  dsimp only at hE hI hsz hk ⊢
  refine wpAny_pyIter_enum hE ?_
  have fI := get_none_size h
  have fE : h.get? (h.objs.size + 1) = none := by
    cases q : h.get? (h.objs.size + 1) with
    | none => rfl
    | some o => exact absurd (Heap.lt_size q) (Nat.not_lt.mpr (Nat.le_add_right _ _))
  obtain ⟨oi, hoi, hic, hid⟩ := id hI
  obtain ⟨a1, a2, a3, a4, a5⟩ := S.nofree fI
  obtain ⟨b1, b2, b3, b4, b5⟩ := S.nofree fE
  have hne : h.objs.size + 1 ≠ h.objs.size := Nat.succ_ne_self _
  have S1 : St e nm L g h' vals ((h.objs.size, oi) :: news) := S.new fI hk hoi
  have S2 : St e nm L g h' vals ((h.objs.size + 1, { cls := .type "enumerate", dict := none, data := .fields #[.none, .bool false, .ref h.objs.size, rawInt 0, .none, .none], slots := #[] }) :: (h.objs.size, oi) :: news) := by
    refine ⟨⟨S1.mem.keep, fun p hp => ?_, List.nodup_cons.mpr ⟨fun q => ?_, S1.mem.nd⟩, S1.mem.base, S1.mem.kept, S1.mem.fresh, fun p hp => ?_, S1.mem.alive, S1.mem.G0⟩, S1.ns, S1.off, fun p hp => ?_, S1.Gs, S1.Lf, S1.LW⟩
    · rcases List.mem_cons.mp hp with rfl | hp
      · exact ⟨hE, b1⟩
      · exact S1.mem.hold p hp
    · obtain ⟨p, hp, e1⟩ := List.mem_map.mp q
      rcases List.mem_cons.mp hp with rfl | hp
      · exact hne e1.symm
      · exact b5 p hp e1
    · rcases List.mem_cons.mp hp with rfl | hp
      · exact .inr b2
      · exact S1.mem.own p hp
    · rcases List.mem_cons.mp hp with rfl | hp
      · exact b3
      · exact S1.Ln p hp
  refine r_turns (wr := [h.objs.size + 1, h.objs.size]) (own := [(h.objs.size + 1, _), (h.objs.size, oi)]) (KTurns.ofWalksU (elts := elts) (k := k0) (pos := pos) (WalksT.enumerate (prog := prog) (w := w) R.h (h.objs.size + 1) h.objs.size l hne (Nat.ne_of_lt (Nat.lt_succ_of_lt hlt)) (Nat.ne_of_lt hlt) vs.toArray).toU) (S2.perm (List.perm_append_comm (l₁ := [_, _]))) ?_ (fun b hb o q => ?_) (fun b hb => ?_) (fun b hb => ?_) (fun i h2 st b hb => ?_) ⟨⟨.none, hE⟩, hI, (hl.isList).at fun o q => hk _ o q⟩ P h0 (fun i v g1 h1 tk1 vals1 news1 own1 hi hle hP hJ S3 => ?_) (by simpa using done)
  · simp only [List.nodup_cons, List.mem_cons, List.not_mem_nil, or_false, not_false_eq_true, List.nodup_nil, and_true]
    exact hne
  · have hb' : b = h.objs.size + 1 ∨ b = h.objs.size := by simpa using hb
    rcases hb' with rfl | rfl
    · rw [hE] at q; cases q; exact .head _
    · rw [hoi] at q; cases q; exact .tail _ (.head _)
  · have hb' : b = h.objs.size + 1 ∨ b = h.objs.size := by simpa using hb
    rcases hb' with rfl | rfl
    · exact ⟨b2, b3, b4⟩
    · exact ⟨a2, a3, a4⟩
  · have hb' : b = h.objs.size + 1 ∨ b = h.objs.size ∨ b = l := by simpa using hb
    rcases hb' with rfl | rfl | rfl
    · exact .inl (by simp)
    · exact .inl (by simp)
    · obtain ⟨o, q, _⟩ := hr
      exact .inr ⟨o, q⟩
  · obtain ⟨⟨old, he⟩, ⟨o, q, _⟩, _⟩ := st
    have hb' : b = h.objs.size + 1 ∨ b = h.objs.size := by simpa using hb
    rcases hb' with rfl | rfl
    · have he' : h2.get? (h.objs.size + 1) = some _ := he
      rw [he']; exact fun z => by cases z
    · rw [q]; exact fun z => by cases z
  · obtain ⟨T, us, rfl, ⟨t, x, hx, rfl⟩, hT⟩ := hP
    refine assign_Tuple_tuple R.h (items := #[.int i t, x]) hT (by rw [hn]; rfl) hstar fun h3 hk3 => ?_
    exact (step i x t g1 h3 tk1 vals1 news1 own1 (by simpa using hx) hle hJ (S3.grow (keepsLe hk3))).go
end

theorem x_midV {M : Model} {A : Around} {t : Sem Value} {Q : Value → Shared → Prop} {s : Shared} (Mid : Value → Shared → Prop) (h1 : OpAll Mid fun T => wpAny M A t T nE s) (h2 : ∀ v s', Mid v s' → Q v s') : wpAny M A t Q nE s :=
  wpAny_mono h1.go (fun v s' z => h2 v s' z) fun _ _ z => z.elim
/-! texts of words and gaps -/
noncomputable def Blk (l : List Int) : Prop := (∀ x ∈ l, blank x = true) ∧ l.length ≤ 3
abbrev Seg := List Int × List Int
noncomputable def flat (S : List Seg) : List Int := S.flatMap fun s => s.1 ++ s.2
theorem flat_snoc (S : List Seg) (s : Seg) : flat (S ++ [s]) = flat S ++ (s.1 ++ s.2) := by simp [flat]
noncomputable def jfs (k : Int) : List Seg → List Int
  | [] => []
  | s :: r => (k + s.1.length) :: jfs (k + s.1.length + s.2.length) r
theorem jfs_snoc : ∀ (S : List Seg) (k : Int) (s : Seg), jfs k (S ++ [s]) = jfs k S ++ [k + (flat S).length + s.1.length]
  | [], k, s => by simp [jfs, flat]
  | a :: r, k, s => by
    simp only [List.cons_append, jfs, jfs_snoc r]
    simp only [flat, List.flatMap_cons, List.length_append, Int.natCast_add]
    congr 3
    (first | lia | omega)
noncomputable def SegOk (i : Nat) (s : Seg) : Prop := if i = 0 then s.1 = [] else (s.1 ≠ [] ∧ (∀ x ∈ s.1, blank x = true) ∧ s.1.length ≤ 3)
structure Joined (ws : List (List Int)) (txt fs : List Int) (lead : List Int) (S : List Seg) (tail : List Int) : Prop where
  words : S.map (·.2) = ws
  segs : ∀ i s, S[i]? = some s → SegOk i s
  hlead : Blk lead
  htail : Blk tail
  htxt : txt = lead ++ flat S ++ tail
  hfs : fs = jfs lead.length S
end Mine
namespace Mine
/-! the words, the other words, and which of them are the same: one block for each word that stays -/
structure Bk where
  a : List (List Int)
  b : List (List Int)
  w : List Int
noncomputable def wfl (bl : List Bk) : List (List Int) := bl.flatMap fun x => x.a ++ [x.w]
noncomputable def ofl (bl : List Bk) : List (List Int) := bl.flatMap fun x => x.b ++ [x.w]
noncomputable def prs (p q : Nat) : List Bk → List (Int × Int)
  | [] => []
  | x :: r => (((p + x.a.length : Nat) : Int), ((q + x.b.length : Nat) : Int)) :: prs (p + x.a.length + 1) (q + x.b.length + 1) r
theorem wfl_snoc (bl : List Bk) (x : Bk) : wfl (bl ++ [x]) = wfl bl ++ (x.a ++ [x.w]) := by simp [wfl]
theorem ofl_snoc (bl : List Bk) (x : Bk) : ofl (bl ++ [x]) = ofl bl ++ (x.b ++ [x.w]) := by simp [ofl]
theorem prs_snoc : ∀ (bl : List Bk) (p q : Nat) (x : Bk), prs p q (bl ++ [x]) = prs p q bl ++ [(((p + (wfl bl).length + x.a.length : Nat) : Int), ((q + (ofl bl).length + x.b.length : Nat) : Int))]
  | [], p, q, x => by simp [prs, wfl, ofl]
  | y :: r, p, q, x => by
    simp only [List.cons_append, prs, prs_snoc r]
    simp only [wfl, ofl, List.flatMap_cons, List.length_append, List.length_cons, List.length_nil]
    congr 3
    · congr 1
      · (first | lia | omega)
      · (first | lia | omega)
noncomputable def FrW (l : List Int) : Prop := ∃ c n, 65 ≤ c ∧ c ≤ 67 ∧ 1 ≤ n ∧ n ≤ 2 ∧ l = List.replicate n c
noncomputable def OwW (j : Nat) (l : List Int) : Prop := ∃ n, 2 ≤ n ∧ n ≤ 3 ∧ l = List.replicate n (97 + (j : Int))
structure WordsR (W O : List (List Int)) (Ps : List (Int × Int)) (bl : List Bk) (gt ft : List (List Int)) : Prop where
  w : W = wfl bl ++ gt
  o : O = ofl bl ++ ft
  p : Ps = prs 0 0 bl
  few : W.length ≤ 8 ∧ gt.length ≤ 3 ∧ ft.length ≤ 3
  bk : ∀ x ∈ bl, x.a.length ≤ 3 ∧ x.b.length ≤ 3 ∧ ∀ l ∈ x.b, FrW l
  fts : ∀ l ∈ ft, FrW l
  own : ∀ j l, W[j]? = some l → OwW j l
theorem if_nt {T F : Prop} (h : F) : if (!true) = true then T else F := h
theorem if_nf {T F : Prop} (h : T) : if (!false) = true then T else F := h
/-! what the edits do to a text and to a place -/
noncomputable def sh (low high n p : Int) : Int := if high < p then p + n - (high - low) else p
noncomputable def rep (txt : List Int) (low high : Int) (ns : List Int) : List Int := txt.take (low - 1).toNat ++ ns ++ txt.drop (high - 1).toNat
noncomputable def appT (s : Int) (txt : List Int) (E : List Edit) : List Int := E.foldr (fun x t => rep t (s + x.f) (s + x.l) x.own) txt
noncomputable def appP (s : Int) (E : List Edit) (p : Int) : Int := E.foldr (fun x p => sh (s + x.f) (s + x.l) x.own.length p) p
noncomputable def Okay (s : Int) (txt ps : List Int) : List Edit → Prop
  | [] => True
  | x :: B => Okay s txt ps B ∧ 1 ≤ s + x.f ∧ x.f ≤ x.l ∧ s + x.l ≤ (appT s txt B).length + 1 ∧ (∀ p ∈ ps, appP s B p < s + x.f ∨ s + x.l < appP s B p) ∧ x.own.length ≤ 900 ∧ (appT s txt B).length ≤ 2000
theorem rep_length {t ns : List Int} {x y : Int} (h : 1 ≤ x ∧ x ≤ y ∧ y ≤ t.length + 1) : ((rep t x y ns).length : Int) = t.length + ns.length - (y - x) := by
  obtain ⟨i, hi⟩ := Int.le.dest h.1
  obtain ⟨d, hd⟩ := Int.le.dest h.2.1
  have h3 := h.2.2
  subst hi hd
  have h4 : i + d ≤ t.length := by (first | lia | omega)
  clear h h3
  unfold rep
  rw [show (1 : Int) + (i : Int) - 1 = (i : Int) by (first | lia | omega), show (1 : Int) + (i : Int) + (d : Int) - 1 = ((i + d : Nat) : Int) by (first | lia | omega), Int.toNat_natCast, Int.toNat_natCast, List.length_append, List.length_append, List.length_take, List.length_drop, Nat.min_eq_left (Nat.le_trans (Nat.le_add_right _ _) h4)]
  (first | lia | omega)
theorem appT_cons {s : Int} {txt : List Int} {x : Edit} {B : List Edit} : appT s txt (x :: B) = rep (appT s txt B) (s + x.f) (s + x.l) x.own := rfl
theorem appP_cons {s : Int} {x : Edit} {B : List Edit} {p : Int} : appP s (x :: B) p = sh (s + x.f) (s + x.l) x.own.length (appP s B p) := rfl
end Mine
namespace Mine

/-! the plain law -/
noncomputable def Wd (w : List Int) : Prop := w ≠ [] ∧ ∀ c ∈ w, blank c = false
noncomputable def pos (k : Nat) : List Seg → List (Int × Int)
  | [] => []
  | s :: r => (((k + s.1.length : Nat) : Int), ((k + s.1.length + s.2.length : Nat) : Int)) :: pos (k + s.1.length + s.2.length) r
theorem spans_gap : ∀ (l : List Int) (k : Nat) (r : List Int), (∀ x ∈ l, blank x = true) → spans k (l ++ r) = spans (k + l.length) r
  | [], k, r, _ => rfl
  | x :: l, k, r, h => by
    rw [List.cons_append, spans_cons, if_pos (h x (.head _)), spans_gap l (k + 1) r fun y hy => h y (.tail _ hy), List.length_cons]
    congr 1; (first | lia | omega)
theorem wlen_word : ∀ (w r : List Int), (∀ c ∈ w, blank c = false) → (∀ x r', r = x :: r' → blank x = true) → wlen (w ++ r) = w.length
  | [], r, _, h => by
    cases r with
    | nil => rfl
    | cons x r' => rw [List.nil_append, wlen, h x r' rfl]; rfl
  | c :: w, r, h, h' => by
    rw [List.cons_append, wlen, h c (.head _), wlen_word w r (fun y hy => h y (.tail _ hy)) h', List.length_cons]
    simp; (first | lia | omega)
theorem spans_wd {w r : List Int} {k : Nat} (hw : Wd w) (hr : ∀ x r', r = x :: r' → blank x = true) : spans k (w ++ r) = (((k : Nat) : Int), ((k + w.length : Nat) : Int)) :: spans (k + w.length) r := by
  obtain ⟨hne, hb⟩ := hw
  cases w with
  | nil => exact absurd rfl hne
  | cons c w =>
    have e1 := wlen_word (c :: w) r hb hr
    have e2 := wlen_word w r (fun y hy => hb y (.tail _ hy)) hr
    rw [List.cons_append] at e1 ⊢
    rw [spans_cons, hb c (.head _)]
    simp only [Bool.false_eq_true, if_false]
    rw [e1, e2, List.drop_left]
theorem spans_tail {l : List Int} {k : Nat} (h : ∀ x ∈ l, blank x = true) : spans k l = [] := by
  have := spans_gap l k [] h
  rw [List.append_nil] at this
  rw [this, spans_nil]
/-- where the words of a joined text stand -/
theorem spans_segs : ∀ (S : List Seg) (k : Nat) (tail : List Int), (∀ s ∈ S, (∀ x ∈ s.1, blank x = true) ∧ Wd s.2) → (∀ s ∈ S.tail, s.1 ≠ []) → (∀ x ∈ tail, blank x = true) → spans k (flat S ++ tail) = pos k S
  | [], k, tail, _, _, ht => by simp only [flat, List.flatMap_nil, List.nil_append, pos]; exact spans_tail ht
  | s :: r, k, tail, h, hn, ht => by
    have h1 := h s (.head _)
    have e : flat (s :: r) ++ tail = s.1 ++ (s.2 ++ (flat r ++ tail)) := by simp [flat]
    rw [e, spans_gap _ _ _ h1.1, spans_wd h1.2, spans_segs r _ tail (fun t ht => h t (.tail _ ht)) (fun t ht => hn t (List.mem_of_mem_tail ht)) ht, pos]
    intro x r' hx
    cases r with
    | nil => simp only [flat, List.flatMap_nil, List.nil_append] at hx; exact ht x (by rw [hx]; exact .head _)
    | cons t r2 =>
      have h2 := h t (.tail _ (.head _))
      have h3 := hn t (.head _)
      obtain ⟨g, hg⟩ : ∃ y ys, t.1 = y :: ys := by
        cases ht1 : t.1 with
        | nil => exact absurd ht1 h3
        | cons y ys => exact ⟨y, ys, rfl⟩
      obtain ⟨ys, hg⟩ := hg
      have e2 : flat (t :: r2) ++ tail = g :: (ys ++ (t.2 ++ (flat r2 ++ tail))) := by simp [flat, hg]
      rw [e2] at hx
      cases hx
      exact h2.1 _ (by rw [hg]; exact .head _)
theorem pos_length : ∀ (S : List Seg) k, (pos k S).length = S.length
  | [], _ => rfl
  | _ :: r, _ => by simp [pos, pos_length r]
end Mine
namespace Mine
/-! the edits between two texts that share some words -/
structure Tb where
  u : List Int
  v : List Int
  w : List Int
noncomputable def otx (tb : List Tb) : List Int := tb.flatMap fun x => x.u ++ x.w
noncomputable def ntx (tb : List Tb) : List Int := tb.flatMap fun x => x.v ++ x.w
noncomputable def qds (a p : Nat) : List Tb → List Qd
  | [] => []
  | x :: r => ((((a + x.u.length : Nat) : Int), ((a + x.u.length + x.w.length : Nat) : Int)), (((p + x.v.length : Nat) : Int), ((p + x.v.length + x.w.length : Nat) : Int))) :: qds (a + x.u.length + x.w.length) (p + x.v.length + x.w.length) r
theorem otx_cons (x : Tb) (r : List Tb) : otx (x :: r) = x.u ++ (x.w ++ otx r) := by simp [otx]
theorem ntx_cons (x : Tb) (r : List Tb) : ntx (x :: r) = x.v ++ (x.w ++ ntx r) := by simp [ntx]
theorem qds_snoc : ∀ (tb : List Tb) (a p : Nat) (x : Tb), qds a p (tb ++ [x]) = qds a p tb ++ [((((a + (otx tb).length + x.u.length : Nat) : Int), ((a + (otx tb).length + x.u.length + x.w.length : Nat) : Int)), (((p + (ntx tb).length + x.v.length : Nat) : Int), ((p + (ntx tb).length + x.v.length + x.w.length : Nat) : Int)))]
  | [], a, p, x => by simp [qds, otx, ntx]
  | y :: r, a, p, x => by
    simp only [List.cons_append, qds, qds_snoc r, otx_cons, ntx_cons, List.length_append]
    congr 4 <;> (congr 1 <;> (first | lia | omega))
theorem qds_length : ∀ (tb : List Tb) (a p : Nat), (qds a p tb).length = tb.length
  | [], _, _ => rfl
  | _ :: r, _, _ => by simp [qds, qds_length r]
theorem qds_chn : ∀ (tb : List Tb) (a p : Nat) (n : Int), (a : Int) + (otx tb).length ≤ n → Chn n a (qds a p tb)
  | [], _, _, _, _ => trivial
  | x :: r, a, p, n, h => by
    rw [otx_cons, List.length_append, List.length_append] at h
    refine ⟨?_, ?_, ?_, ?_, ?_, qds_chn r _ _ n ?_⟩ <;> (try dsimp only) <;> (first | lia | omega)
/-- one edit does in the text what it should -/
theorem getD_eq {U V : List Int} {i j : Nat} (hi : i < U.length) (hj : j < V.length) (h : U.getD i 0 = V.getD j 0) : U[i] = V[j] := by
  rwa [List.getD_eq_getElem?_getD, List.getD_eq_getElem?_getD, List.getElem?_eq_getElem hi, List.getElem?_eq_getElem hj] at h
theorem take_same {U V : List Int} {k : Nat} (hu : k ≤ U.length) (hv : k ≤ V.length) (h : ∀ i, i < k → U.getD i 0 = V.getD i 0) : U.take k = V.take k := by
  refine List.ext_getElem (by rw [List.length_take, List.length_take, Nat.min_eq_left hu, Nat.min_eq_left hv]) fun i h1 h2 => ?_
  rw [List.length_take, Nat.min_eq_left hu] at h1
  rw [List.getElem_take, List.getElem_take]
  exact getD_eq _ _ (h i h1)
theorem drop_same {U V : List Int} {u v m : Nat} (hu : U.length = u + m) (hv : V.length = v + m) (h : ∀ i, i < m → U.getD (u + i) 0 = V.getD (v + i) 0) : U.drop u = V.drop v := by
  refine List.ext_getElem (by rw [List.length_drop, List.length_drop, hu, hv, Nat.add_sub_cancel_left, Nat.add_sub_cancel_left]) fun i h1 h2 => ?_
  rw [List.length_drop, hu, Nat.add_sub_cancel_left] at h1
  rw [List.getElem_drop, List.getElem_drop]
  exact getD_eq _ _ (h i h1)
/-- the parts that an edit leaves alone -/
theorem nar_parts {U V own : List Int} {k m u v : Nat} (hu : U.length = k + u + m) (hv : V.length = k + v + m) (h1 : U.take k = V.take k) (h2 : U.drop (k + u) = V.drop (k + v)) (h3 : own = (V.take (k + v)).drop k) : U.take k ++ own ++ U.drop (k + u) = V := by
  have h4 : V.take k ++ own = V.take (k + v) := by
    rw [h3, List.drop_take, Nat.add_sub_cancel_left, ← List.take_add]
  rw [h1, h2, h4, List.take_append_drop]
theorem rep_nar {T L U V R : List Int} {s a b : Int} {x : Edit} {old : List Int} (hT : T = L ++ (U ++ R)) (hL : (L.length : Int) = s + a - 1) (hb : b = a + U.length) (ho : ∀ i : Nat, i < U.length → old.getD (a + i).toNat 0 = U.getD i 0) (ha : 0 ≤ a) (N : Nar old a b V x) : rep T (s + x.f) (s + x.l) x.own = L ++ (V ++ R) := by
  obtain ⟨⟨i1, i2, i3⟩, i4, i5, i6, i7⟩ := N
  obtain ⟨k, hk⟩ : ∃ k : Nat, x.f = a + k := Int.le.dest i1 |>.imp fun _ h => h.symm
  obtain ⟨m, hm⟩ : ∃ m : Nat, x.l + m = b := Int.le.dest i3
  obtain ⟨u, hu⟩ : ∃ u : Nat, x.f + u = x.l := Int.le.dest i2
  rw [hk] at hu i4 i5 i6
  have hU : U.length = k + u + m := by (first | lia | omega)
  obtain ⟨v, hv⟩ : ∃ v : Nat, V.length = k + v + m := by
    obtain ⟨v, hv⟩ := Int.le.dest i4
    exact ⟨v, by (first | lia | omega)⟩
  clear i1 i2 i3 i4
  have e1 : U.take k = V.take k := take_same (by (first | lia | omega)) (by (first | lia | omega)) fun i hi => by
    have h3 := i6 i (by (first | lia | omega))
    rwa [ho i (by (first | lia | omega)), Int.toNat_natCast] at h3
  have e2 : U.drop (k + u) = V.drop (k + v) := drop_same hU hv fun i hi => by
    obtain ⟨j, hj⟩ := Nat.exists_eq_add_of_lt hi
    have h3 := i7 j (by (first | lia | omega))
    rwa [show b - (j : Int) - 1 = a + ((k + u + i : Nat) : Int) by (first | lia | omega), ho _ (by (first | lia | omega)), show (V.length : Int) - (j : Int) - 1 = ((k + v + i : Nat) : Int) by (first | lia | omega), Int.toNat_natCast] at h3
  have e5 : x.own = (V.take (k + v)).drop k := by
    rw [i5, show a + (k : Int) - a = (k : Int) by (first | lia | omega), show (V.length : Int) - (b - x.l) = ((k + v : Nat) : Int) by (first | lia | omega)]
    unfold sl
    rw [Int.toNat_natCast, Int.toNat_natCast, List.drop_take]
  have h1 : (s + x.f - 1).toNat = L.length + k := by
    rw [show s + x.f - 1 = ((L.length + k : Nat) : Int) by (first | lia | omega), Int.toNat_natCast]
  have h2 : (s + x.l - 1).toNat = L.length + (k + u) := by
    rw [show s + x.l - 1 = ((L.length + (k + u) : Nat) : Int) by (first | lia | omega), Int.toNat_natCast]
  unfold rep
  rw [h1, h2, hT, List.take_length_add_append, List.drop_length_add_append, List.take_append_of_le_length (by (first | lia | omega)), List.drop_append_of_le_length (by (first | lia | omega)), ← nar_parts hU hv e1 e2 e5]
  simp only [List.append_assoc]
theorem nar_own {old V : List Int} {a b : Int} {x : Edit} (N : Nar old a b V x) : (x.own.length : Int) = V.length - (x.f - a) - (b - x.l) := by
  obtain ⟨⟨i1, _, i3⟩, i4, i5, _, _⟩ := N
  obtain ⟨k, hk⟩ := Int.le.dest i1
  obtain ⟨m, hm⟩ := Int.le.dest i3
  have e1 : x.f - a = k := by (first | lia | omega)
  have e2 : b - x.l = m := by (first | lia | omega)
  rw [e1, e2] at i4 i5 ⊢
  clear e1 e2 hk hm i1 i3
  obtain ⟨v, hv⟩ := Nat.exists_eq_add_of_le (show k + m ≤ V.length by (first | lia | omega))
  rw [i5, hv, show ((k + m + v : Nat) : Int) - (m : Int) = ((k + v : Nat) : Int) by (first | lia | omega), sl_length, Int.toNat_natCast, Int.toNat_natCast, Nat.add_sub_cancel_left, Nat.min_eq_left (by (first | lia | omega))]
  (first | lia | omega)
theorem sl_here {l P W R : List Int} {x y : Int} (h : l = P ++ (W ++ R)) (hx : x = P.length) (hy : y = x + W.length) : sl l x y = W := by
  subst h hx hy
  unfold sl
  rw [Int.toNat_natCast, List.drop_left, show ((P.length : Int) + W.length).toNat - P.length = W.length by (first | lia | omega), List.take_left]
/-- a place within a word that stays, and where it goes -/
noncomputable def Inn (q : List Qd) (y z : Int) : Prop := ∃ x ∈ q, x.1.1 < y ∧ y < x.1.2 ∧ z = x.2.1 + (y - x.1.1)
theorem inn_low : ∀ {tb : List Tb} {a p : Nat} {y z : Int}, Inn (qds a p tb) y z → (a : Int) < y ∧ (p : Int) < z
  | [], _, _, _, _, ⟨x, hx, _⟩ => by cases hx
  | t :: r, a, p, y, z, ⟨x, hx, h1, h2, h3⟩ => by
    rcases List.mem_cons.mp hx with rfl | hx
    · dsimp only at h1 h2 h3; (first | lia | omega)
    · have := inn_low (tb := r) ⟨x, hx, h1, h2, h3⟩
      (first | lia | omega)
theorem sh_lo {s f l n p : Int} (h : p < s + f) (hf : f ≤ l) : sh (s + f) (s + l) n p = p := by rw [sh, if_neg (by (first | lia | omega))]
theorem sh_hi {s f l n p : Int} (h : s + l < p) (hf : f ≤ l) : sh (s + f) (s + l) n p = p + (n - (s + l - (s + f))) := by rw [sh, if_pos (by (first | lia | omega))]; (first | lia | omega)
theorem edits_law {old new head tl : List Int} {s : Int} (hs : s = head.length + 1) (hz : head.length + old.length + new.length + tl.length ≤ 900) : ∀ (tb : List Tb) (P Q : List Int) (a p : Nat) (E : List Edit), old = P ++ otx tb → new = Q ++ ntx tb → a = P.length → p = Q.length → EdR old new a p (qds a p tb) E →
    appT s (head ++ (old ++ tl)) E = head ++ (P ++ (ntx tb ++ tl)) ∧
    (∀ y : Int, y < a → appP s E (s + y) = s + y) ∧ (∀ y z, Inn (qds a p tb) y z → appP s E (s + y) = s + z - p + a) ∧
    (∀ ps : List Int, (∀ q ∈ ps, ∃ y, q = s + y ∧ (y < a ∨ ∃ z, Inn (qds a p tb) y z)) → Okay s (head ++ (old ++ tl)) ps E)
  | [], P, Q, a, p, E, ho, hn, ha, hp, h => by
    cases h
    refine ⟨?_, fun y _ => rfl, fun y z hi => ?_, fun ps _ => trivial⟩
    · show head ++ (old ++ tl) = _
      rw [ho]; simp [otx, ntx]
    · obtain ⟨x, hx, _⟩ := hi
      cases hx
  | t :: r, P, Q, a, p, E, ho, hn, ha, hp, h => by
    rw [otx_cons] at ho
    rw [ntx_cons] at hn
    have hu : sl old a ((a + t.u.length : Nat) : Int) = t.u := sl_here ho (by (first | lia | omega)) (by (first | lia | omega))
    have hv : sl new p ((p + t.v.length : Nat) : Int) = t.v := sl_here hn (by (first | lia | omega)) (by (first | lia | omega))
    have hol : old.length = a + t.u.length + t.w.length + (otx r).length := by rw [ho]; simp only [List.length_append]; (first | lia | omega)
    have hnl : new.length = p + t.v.length + t.w.length + (ntx r).length := by rw [hn]; simp only [List.length_append]; (first | lia | omega)
    have ho' : old = (P ++ (t.u ++ t.w)) ++ otx r := by rw [ho]; simp only [List.append_assoc]
    have hn' : new = (Q ++ (t.v ++ t.w)) ++ ntx r := by rw [hn]; simp only [List.append_assoc]
    have ha' : a + t.u.length + t.w.length = (P ++ (t.u ++ t.w)).length := by simp only [List.length_append]; (first | lia | omega)
    have hp' : p + t.v.length + t.w.length = (Q ++ (t.v ++ t.w)).length := by simp only [List.length_append]; (first | lia | omega)
    rw [qds] at h ⊢
    have hsplit : ∀ y z, Inn (((((a + t.u.length : Nat) : Int), ((a + t.u.length + t.w.length : Nat) : Int)), (((p + t.v.length : Nat) : Int), ((p + t.v.length + t.w.length : Nat) : Int))) :: qds (a + t.u.length + t.w.length) (p + t.v.length + t.w.length) r) y z → (((a + t.u.length : Nat) : Int) < y ∧ y < ((a + t.u.length + t.w.length : Nat) : Int) ∧ z = ((p + t.v.length : Nat) : Int) + (y - ((a + t.u.length : Nat) : Int))) ∨ Inn (qds (a + t.u.length + t.w.length) (p + t.v.length + t.w.length) r) y z := by
      rintro y z ⟨x, hx, h1, h2, h3⟩
      rcases List.mem_cons.mp hx with rfl | hx
      · exact .inl ⟨h1, h2, h3⟩
      · exact .inr ⟨x, hx, h1, h2, h3⟩
    cases h with
    | same heq hr =>
      obtain ⟨i1, i2, i3, i4⟩ := edits_law hs hz r _ _ _ _ E ho' hn' ha' hp' hr
      dsimp only at heq
      rw [hu, hv] at heq
      have hl := congrArg List.length heq
      refine ⟨?_, fun y hy => i2 y (by (first | lia | omega)), fun y z hi => ?_, fun ps hps => i4 ps fun q hq => ?_⟩
      · rw [i1, ntx_cons, heq]; simp only [List.append_assoc]
      · rcases hsplit y z hi with ⟨h1, h2, h3⟩ | hi
        · rw [i2 y (by (first | lia | omega))]; (first | lia | omega)
        · rw [i3 y z hi]; (first | lia | omega)
      · obtain ⟨y, rfl, hy | ⟨z, hy⟩⟩ := hps q hq
        · exact ⟨y, rfl, .inl (by (first | lia | omega))⟩
        · rcases hsplit y z hy with ⟨h1, h2, h3⟩ | hi
          · exact ⟨y, rfl, .inl (by (first | lia | omega))⟩
          · exact ⟨y, rfl, .inr ⟨z, hi⟩⟩
    | @edit _ _ _ _ x B hne hN hr =>
      obtain ⟨i1, i2, i3, i4⟩ := edits_law hs hz r _ _ _ _ B ho' hn' ha' hp' hr
      dsimp only at hN
      rw [hv] at hN
      have hgo : ∀ i : Nat, i < t.u.length → old.getD ((a : Int) + i).toNat 0 = t.u.getD i 0 := fun i hi => by
        rw [ho, show ((a : Int) + i).toNat = P.length + i by (first | lia | omega), List.getD_eq_getElem?_getD, List.getD_eq_getElem?_getD, List.getElem?_append_right (by (first | lia | omega)), List.getElem?_append_left (by (first | lia | omega))]
        congr 2
        (first | lia | omega)
      have hown : (x.own.length : Int) = t.v.length - (x.f - a) - (((a + t.u.length : Nat) : Int) - x.l) := nar_own hN
      have hi := hN.in1
      have hf := hN.fits
      have hT : appT s (head ++ (old ++ tl)) (x :: B) = (head ++ P) ++ (t.v ++ (t.w ++ (ntx r ++ tl))) := by
        rw [appT_cons]
        refine rep_nar (U := t.u) (a := a) (b := ((a + t.u.length : Nat) : Int)) (old := old) ?_ ?_ (by (first | lia | omega)) hgo (by (first | lia | omega)) hN
        · rw [i1]; simp only [List.append_assoc]
        · rw [List.length_append]; (first | lia | omega)
      have hP1 : ∀ y : Int, y < a → appP s (x :: B) (s + y) = s + y := fun y hy => by
        have h1 := i2 y (by (first | lia | omega))
        have h2 := hi.1
        have h3 := hi.2.1
        clear hT hgo i1 i2 i3 i4 hsplit ho hn ho' hn' hol hnl hu hv hne hr hown hf hs hz ha hp ha' hp' hN hi
        rw [appP_cons, h1, sh_lo (by (first | lia | omega)) (by (first | lia | omega))]
      have hP2 : ∀ y z, (((a + t.u.length : Nat) : Int) < y ∧ y < ((a + t.u.length + t.w.length : Nat) : Int) ∧ z = ((p + t.v.length : Nat) : Int) + (y - ((a + t.u.length : Nat) : Int))) ∨ Inn (qds (a + t.u.length + t.w.length) (p + t.v.length + t.w.length) r) y z → s + x.l < appP s B (s + y) ∧ appP s (x :: B) (s + y) = s + z - p + a := by
        have h6 := hi.2.1
        have h7 := hi.2.2
        have e1 : (x.own.length : Int) - (s + x.l - (s + x.f)) = t.v.length - t.u.length := by
          clear hT hgo i1 i2 i3 i4 hsplit ho hn ho' hn' hol hnl hu hv hne hr hs hz ha hp ha' hp' hP1 hN hi hf
          (first | lia | omega)
        clear hT hgo i1 i4 hsplit ho hn ho' hn' hol hnl hu hv hne hr hown hf hs hz ha hp ha' hp' hP1 hN hi
        rintro y z (⟨h1, h2, h3⟩ | hi2)
        · have h4 := i2 y (by (first | lia | omega))
          clear i2 i3
          refine ⟨by (first | lia | omega), ?_⟩
          rw [appP_cons, h4, sh_hi (by (first | lia | omega)) h6, e1]; (first | lia | omega)
        · have h4 := i3 y z hi2
          have h5 := inn_low hi2
          clear i2 i3 hi2
          refine ⟨by (first | lia | omega), ?_⟩
          rw [appP_cons, h4, sh_hi (by (first | lia | omega)) h6, e1]; (first | lia | omega)
      refine ⟨?_, hP1, fun y z hi => (hP2 y z (hsplit y z hi)).2, fun ps hps => ⟨i4 ps fun q hq => ?_, by (first | lia | omega), by (first | lia | omega), ?_, fun q hq => ?_, by (first | lia | omega), ?_⟩⟩
      · rw [hT, ntx_cons]; simp only [List.append_assoc]
      · obtain ⟨y, rfl, hy | ⟨z, hy⟩⟩ := hps q hq
        · exact ⟨y, rfl, .inl (by (first | lia | omega))⟩
        · rcases hsplit y z hy with ⟨h1, h2, h3⟩ | hi
          · exact ⟨y, rfl, .inl (by (first | lia | omega))⟩
          · exact ⟨y, rfl, .inr ⟨z, hi⟩⟩
      · rw [i1]; simp only [List.length_append]; (first | lia | omega)
      · obtain ⟨y, rfl, hy | ⟨z, hy⟩⟩ := hps q hq
        · left; rw [i2 y (by (first | lia | omega))]; (first | lia | omega)
        · right; exact (hP2 y z (hsplit y z hy)).1
      · rw [i1]; simp only [List.length_append]; (first | lia | omega)
/-! a text with itself -/
theorem kept_diag {A : List (List Int)} {sa : List (Int × Int)} {new : List Int} (hA : A = sa.map fun p => sl new p.1 p.2) : ∀ (n j : Nat), n = sa.length - j → j ≤ sa.length → kept A sa new j (sa.drop j) = (sa.drop j).map fun q => (q, q)
  | 0, j, hn, hj => by rw [List.drop_eq_nil_of_le (by (first | lia | omega))]; rfl
  | n + 1, j, hn, hj => by
    have hlt : j < sa.length := by (first | lia | omega)
    have hAl : A.length = sa.length := by rw [hA, List.length_map]
    have hAj : A.getD j [] = sl new sa[j].1 sa[j].2 := by
      rw [hA, List.getD_eq_getElem?_getD, List.getElem?_map, List.getElem?_eq_getElem hlt]; rfl
    rw [List.drop_eq_getElem_cons hlt, kept, srch_stop (fun _ => hAj), if_pos (by (first | lia | omega)), kept_diag hA n (j + 1) (by (first | lia | omega)) (by (first | lia | omega))]
    rw [List.map_cons, List.getD_eq_getElem?_getD, List.getElem?_eq_getElem hlt]; rfl
theorem edr_diag {l : List Int} : ∀ (qs : List (Int × Int)) (a : Int) (E : List Edit), EdR l l a a (qs.map fun q => (q, q)) E → E = []
  | [], a, E, h => by cases h; rfl
  | q :: r, a, E, h => by
    cases h with
    | same _ hr => exact edr_diag r _ E hr
    | edit hne _ _ => exact absurd rfl hne
theorem edits_same {l : List Int} {E : List Edit} (h : EdR l l 0 0 (segs l l) E) : E = [] := by
  have e : segs l l = (spans 0 l ++ [((l.length : Int), (l.length : Int))]).map fun q => (q, q) := by
    unfold segs keptW
    rw [List.map_append]
    congr 1
    exact kept_diag rfl _ 0 rfl (Nat.zero_le _)
  rw [e] at h
  exact edr_diag _ _ _ h
end Mine
namespace Mine
/-! which words are kept, by blocks -/
structure Mt (A B : List (List Int)) (bl : List Bk) (ga gb : List (List Int)) : Prop where
  a : A = wfl bl ++ ga
  b : B = ofl bl ++ gb
  bk : ∀ x ∈ bl, x.a.length ≤ 3 ∧ x.w ∉ x.a ∧ ∀ l ∈ x.b, l ∉ A
  gb : ∀ l ∈ gb, l ∉ A
theorem flat_app (S T : List Seg) : flat (S ++ T) = flat S ++ flat T := by simp [flat]
theorem flat_cons (s : Seg) (T : List Seg) : flat (s :: T) = s.1 ++ (s.2 ++ flat T) := by simp [flat]
theorem pos_app : ∀ (S T : List Seg) (k : Nat), pos k (S ++ T) = pos k S ++ pos (k + (flat S).length) T
  | [], T, k => rfl
  | s :: r, T, k => by
    rw [List.cons_append, pos, pos_app r, flat_cons]
    simp only [pos, List.cons_append, List.length_append]
    congr 3; (first | lia | omega)
theorem pos_get : ∀ (S : List Seg) (k i : Nat) (s : Seg), S[i]? = some s → ∃ q, (pos k S)[i]? = some q ∧ q.2 = q.1 + s.2.length
  | [], _, _, _, h => by simp at h
  | a :: r, k, 0, s, h => by
    simp only [List.getElem?_cons_zero, Option.some.injEq] at h
    subst h
    exact ⟨_, rfl, by dsimp only; (first | lia | omega)⟩
  | a :: r, k, i + 1, s, h => by
    rw [List.getElem?_cons_succ] at h
    rw [pos, List.getElem?_cons_succ]
    exact pos_get r _ i s h
theorem jfs_pos : ∀ (S : List Seg) (k : Nat), jfs k S = (pos k S).map (·.1)
  | [], _ => rfl
  | s :: r, k => by
    rw [jfs, pos, List.map_cons, ← jfs_pos r]
    simp only [Int.natCast_add]
theorem words_pos : ∀ (T : List Seg) (k : Nat) (new N R : List Int), new = N ++ (flat T ++ R) → k = N.length → wordsOf new (pos k T) = T.map (·.2)
  | [], _, _, _, _, _, _ => rfl
  | t :: r, k, new, N, R, h, hk => by
    rw [flat_cons] at h
    have h1 : wordsOf new (pos (k + t.1.length + t.2.length) r) = r.map (·.2) := words_pos r _ new (N ++ (t.1 ++ t.2)) R (by rw [h]; simp only [List.append_assoc]) (by simp only [List.length_append]; (first | lia | omega))
    have h2 : sl new ((k + t.1.length : Nat) : Int) ((k + t.1.length + t.2.length : Nat) : Int) = t.2 := sl_here (P := N ++ t.1) (R := flat r ++ R) (by rw [h]; simp only [List.append_assoc]) (by rw [List.length_append]; (first | lia | omega)) (by (first | lia | omega))
    rw [pos, List.map_cons, ← h1]
    show sl new _ _ :: wordsOf new _ = _
    rw [h2]
theorem srch_none {A : List (List Int)} {lim : Nat} {b : List Int} (hl : lim ≤ A.length) (hb : b ∉ A) : ∀ (n p : Nat), n = lim - p → ¬ srch A lim b p < lim
  | 0, p, hn => by rw [srch_stop (fun h => absurd h (by (first | lia | omega)))]; (first | lia | omega)
  | n + 1, p, hn => by
    have hp : p < A.length := by (first | lia | omega)
    rw [srch_go (by (first | lia | omega)) (fun e => hb (by rw [← e, List.getD_eq_getElem?_getD, List.getElem?_eq_getElem hp]; exact List.getElem_mem hp))]
    exact srch_none hl hb n (p + 1) (by (first | lia | omega))
theorem srch_some {A A0 a A2 : List (List Int)} {w : List Int} (hA : A = A0 ++ (a ++ w :: A2)) (ha : a.length ≤ 3) (hw : w ∉ a) : srch A (min A.length (A0.length + 4)) w A0.length = A0.length + a.length := by
  have hl : A.length = A0.length + a.length + 1 + A2.length := by rw [hA]; simp only [List.length_append, List.length_cons]; (first | lia | omega)
  have hi : ∀ i : Nat, i ≤ a.length → srch A (min A.length (A0.length + 4)) w A0.length = srch A (min A.length (A0.length + 4)) w (A0.length + i) := by
    intro i
    induction i with
    | zero => intro _; rfl
    | succ i ih =>
      intro h
      rw [ih (by (first | lia | omega)), srch_go (by (first | lia | omega))]
      · rfl
      · intro e
        apply hw
        rw [hA, List.getD_eq_getElem?_getD, List.getElem?_append_right (by (first | lia | omega)), show A0.length + i - A0.length = i by (first | lia | omega), List.getElem?_append_left (by (first | lia | omega)), List.getElem?_eq_getElem (by (first | lia | omega))] at e
        rw [← e]
        exact List.getElem_mem _
  rw [hi _ (Nat.le_refl _), srch_stop]
  intro _
  rw [hA, List.getD_eq_getElem?_getD, List.getElem?_append_right (by (first | lia | omega)), show A0.length + a.length - A0.length = a.length by (first | lia | omega), List.getElem?_append_right (by (first | lia | omega)), Nat.sub_self]
  rfl
theorem kept_skip {A : List (List Int)} {sa : List (Int × Int)} {new : List Int} {at_ : Nat} : ∀ (qs r : List (Int × Int)), (∀ l ∈ wordsOf new qs, l ∉ A) → kept A sa new at_ (qs ++ r) = kept A sa new at_ r
  | [], _, _ => rfl
  | q :: qs, r, h => by
    rw [List.cons_append, kept, if_neg (srch_none (Nat.min_le_left _ _) (h _ (.head _)) _ _ rfl)]
    exact kept_skip qs r fun l hl => h l (.tail _ hl)
theorem kept_tb {A ga gb : List (List Int)} {sa sb : List (Int × Int)} {new R : List Int} (hgb : ∀ l ∈ gb, l ∉ A) : ∀ (bl : List Bk) (A0 : List (List Int)) (sa0 sb0 : List (Int × Int)) (S T : List Seg) (k k' : Nat) (N : List Int),
    (∀ x ∈ bl, x.a.length ≤ 3 ∧ x.w ∉ x.a ∧ ∀ l ∈ x.b, l ∉ A) → A = A0 ++ S.map (·.2) → sa = sa0 ++ pos k S → sa0.length = A0.length → sb = sb0 ++ pos k' T → S.map (·.2) = wfl bl ++ ga → T.map (·.2) = ofl bl ++ gb → new = N ++ (flat T ++ R) → k' = N.length →
    ∃ tb ut vt, flat S = otx tb ++ ut ∧ flat T = ntx tb ++ vt ∧ kept A sa new A0.length (pos k' T) = qds k k' tb ∧ qds k k' tb = (prs A0.length sb0.length bl).map fun pr => (sa.getD pr.1.toNat (0, 0), sb.getD pr.2.toNat (0, 0))
  | [], A0, sa0, sb0, S, T, k, k', N, hbl, hA, hsa, hsl, hsb, hS, hT, hn, hk => by
    refine ⟨[], flat S, flat T, rfl, rfl, ?_, rfl⟩
    have h1 := kept_skip (A := A) (sa := sa) (new := new) (at_ := A0.length) (pos k' T) [] (by rw [words_pos T k' new N R hn hk, hT]; exact hgb)
    rw [List.append_nil] at h1
    rw [h1]; rfl
  | x :: r, A0, sa0, sb0, S, T, k, k', N, hbl, hA, hsa, hsl, hsb, hS, hT, hn, hk => by
    have eS : S.map (·.2) = x.a ++ (x.w :: (wfl r ++ ga)) := by rw [hS]; simp [wfl]
    have eT : T.map (·.2) = x.b ++ (x.w :: (ofl r ++ gb)) := by rw [hT]; simp [ofl]
    obtain ⟨Sa, S1, rfl, hSa, hS1⟩ := List.map_eq_append_iff.mp eS
    obtain ⟨sw, S2, rfl, hsw, hS2⟩ := List.map_eq_cons_iff.mp hS1
    obtain ⟨Tb, T1, rfl, hTb, hT1⟩ := List.map_eq_append_iff.mp eT
    obtain ⟨tw, T2, rfl, htw, hT2⟩ := List.map_eq_cons_iff.mp hT1
    have hx := hbl x (.head _)
    have lSa : Sa.length = x.a.length := by rw [← hSa, List.length_map]
    have lTb : Tb.length = x.b.length := by rw [← hTb, List.length_map]
    have hA1 : A = A0 ++ (x.a ++ x.w :: (wfl r ++ ga)) := by rw [hA, eS]
    have hlA : A.length = A0.length + x.a.length + 1 + (wfl r ++ ga).length := by rw [hA1]; simp only [List.length_append, List.length_cons]; (first | lia | omega)
    rw [flat_app, flat_cons] at hn
    rw [pos_app] at hsa hsb
    rw [pos] at hsa hsb
    have g1 : sa.getD (A0.length + x.a.length) (0, 0) = (((k + (flat Sa).length + sw.1.length : Nat) : Int), ((k + (flat Sa).length + sw.1.length + sw.2.length : Nat) : Int)) := by
      rw [hsa, List.getD_eq_getElem?_getD, List.getElem?_append_right (by (first | lia | omega)), show A0.length + x.a.length - sa0.length = (pos k Sa).length by rw [pos_length]; (first | lia | omega), List.getElem?_append_right (by (first | lia | omega)), Nat.sub_self]
      rfl
    have g2 : sb.getD (sb0.length + x.b.length) (0, 0) = (((k' + (flat Tb).length + tw.1.length : Nat) : Int), ((k' + (flat Tb).length + tw.1.length + tw.2.length : Nat) : Int)) := by
      rw [hsb, List.getD_eq_getElem?_getD, List.getElem?_append_right (by (first | lia | omega)), show sb0.length + x.b.length - sb0.length = (pos k' Tb).length by rw [pos_length]; (first | lia | omega), List.getElem?_append_right (by (first | lia | omega)), Nat.sub_self]
      rfl
    have w1 : sl new ((k' + (flat Tb).length + tw.1.length : Nat) : Int) ((k' + (flat Tb).length + tw.1.length + tw.2.length : Nat) : Int) = x.w := by
      rw [← htw]
      exact sl_here (P := N ++ (flat Tb ++ tw.1)) (R := flat T2 ++ R) (by rw [hn]; simp only [List.append_assoc]) (by simp only [List.length_append]; (first | lia | omega)) (by (first | lia | omega))
    have hs := srch_some hA1 hx.1 hx.2.1
    obtain ⟨tb, ut, vt, i1, i2, i3, i4⟩ := kept_tb (sa := sa) (sb := sb) (new := new) (R := R) hgb r (A0 ++ (x.a ++ [x.w])) (sa0 ++ (pos k Sa ++ [(((k + (flat Sa).length + sw.1.length : Nat) : Int), ((k + (flat Sa).length + sw.1.length + sw.2.length : Nat) : Int))])) (sb0 ++ (pos k' Tb ++ [(((k' + (flat Tb).length + tw.1.length : Nat) : Int), ((k' + (flat Tb).length + tw.1.length + tw.2.length : Nat) : Int))])) S2 T2 (k + (flat Sa).length + sw.1.length + sw.2.length) (k' + (flat Tb).length + tw.1.length + tw.2.length) (N ++ (flat Tb ++ (tw.1 ++ tw.2)))
      (fun y hy => hbl y (.tail _ hy)) (by rw [hA1, hS2]; simp only [List.append_assoc, List.cons_append, List.nil_append]) (by rw [hsa]; simp only [List.append_assoc, List.cons_append, List.nil_append]) (by simp only [List.length_append, pos_length, List.length_cons, List.length_nil]; (first | lia | omega)) (by rw [hsb]; simp only [List.append_assoc, List.cons_append, List.nil_append]) hS2 hT2 (by rw [hn]; simp only [List.append_assoc]) (by simp only [List.length_append]; (first | lia | omega))
    have e1 : (A0 ++ (x.a ++ [x.w])).length = A0.length + x.a.length + 1 := by simp only [List.length_append, List.length_cons, List.length_nil]; (first | lia | omega)
    have e2 : (sb0 ++ (pos k' Tb ++ [(((k' + (flat Tb).length + tw.1.length : Nat) : Int), ((k' + (flat Tb).length + tw.1.length + tw.2.length : Nat) : Int))])).length = sb0.length + x.b.length + 1 := by simp only [List.length_append, pos_length, List.length_cons, List.length_nil]; (first | lia | omega)
    rw [e1] at i3 i4
    rw [e2] at i4
    have lw : tw.2.length = sw.2.length := by rw [htw, hsw]
    have eq1 : qds k k' (⟨flat Sa ++ sw.1, flat Tb ++ tw.1, sw.2⟩ :: tb) = ((((k + (flat Sa).length + sw.1.length : Nat) : Int), ((k + (flat Sa).length + sw.1.length + sw.2.length : Nat) : Int)), (((k' + (flat Tb).length + tw.1.length : Nat) : Int), ((k' + (flat Tb).length + tw.1.length + tw.2.length : Nat) : Int))) :: qds (k + (flat Sa).length + sw.1.length + sw.2.length) (k' + (flat Tb).length + tw.1.length + tw.2.length) tb := by
      rw [qds, lw]
      simp only [List.length_append, Nat.add_assoc]
    refine ⟨⟨flat Sa ++ sw.1, flat Tb ++ tw.1, sw.2⟩ :: tb, ut, vt, ?_, ?_, ?_, ?_⟩
    · rw [flat_app, flat_cons, i1, otx_cons]; simp only [List.append_assoc]
    · rw [flat_app, flat_cons, i2, ntx_cons, htw, hsw]; simp only [List.append_assoc]
    · rw [pos_app, kept_skip _ _ (by rw [words_pos Tb k' new N (tw.1 ++ (tw.2 ++ flat T2) ++ R) (by rw [hn]; simp only [List.append_assoc]) hk, hTb]; exact hx.2.2), pos, kept]
      dsimp only
      rw [w1, hs, if_pos (by (first | lia | omega)), g1, eq1, i3]
    · rw [eq1, prs, List.map_cons, i4]
      dsimp only
      rw [Int.toNat_natCast, Int.toNat_natCast, g1, g2]
end Mine
namespace Mine
/-! one turn -/
theorem flat_le : ∀ (S : List Seg), (∀ s ∈ S, s.1.length ≤ 3 ∧ s.2.length ≤ 3) → (flat S).length ≤ 6 * S.length
  | [], _ => Nat.le_refl _
  | a :: r, h => by
    have h1 := h a (.head _)
    have h2 := flat_le r fun s hs => h s (.tail _ hs)
    simp only [flat, List.flatMap_cons, List.length_append, List.length_cons] at h2 ⊢
    (first | lia | omega)
theorem prs_length : ∀ (bl : List Bk) (p q : Nat), (prs p q bl).length = bl.length
  | [], _, _ => rfl
  | _ :: r, _, _ => by simp [prs, prs_length r]
theorem Joined.segsOk {ws : List (List Int)} {txt fs lead tail : List Int} {S : List Seg} (J : Joined ws txt fs lead S tail) (hw : ∀ l ∈ ws, Wd l ∧ l.length ≤ 3) : (∀ s ∈ S, ((∀ x ∈ s.1, blank x = true) ∧ Wd s.2) ∧ s.1.length ≤ 3 ∧ s.2.length ≤ 3) ∧ (∀ s ∈ S.tail, s.1 ≠ []) := by
  refine ⟨fun s hs => ?_, fun s hs => ?_⟩
  · have h1 : s.2 ∈ ws := by rw [← J.words]; exact List.mem_map_of_mem hs
    obtain ⟨i, hi⟩ := List.getElem?_of_mem hs
    have h2 := J.segs i s hi
    unfold SegOk at h2
    split at h2
    · exact ⟨⟨(by rw [h2]; intro x hx; cases hx), (hw _ h1).1⟩, (by rw [h2]; exact Nat.zero_le _), (hw _ h1).2⟩
    · exact ⟨⟨h2.2.1, (hw _ h1).1⟩, h2.2.2, (hw _ h1).2⟩
  · obtain ⟨i, hi⟩ := List.getElem?_of_mem hs
    rw [List.getElem?_tail] at hi
    have h2 := J.segs (i + 1) s hi
    unfold SegOk at h2
    rw [if_neg (by (first | lia | omega))] at h2
    exact h2.1
theorem Joined.spans {ws : List (List Int)} {txt fs lead tail : List Int} {S : List Seg} (J : Joined ws txt fs lead S tail) (hw : ∀ l ∈ ws, Wd l ∧ l.length ≤ 3) : spans 0 txt = pos lead.length S ∧ txt = lead ++ (flat S ++ tail) ∧ txt.length ≤ 6 + 6 * ws.length := by
  obtain ⟨h1, h2⟩ := J.segsOk hw
  have e : txt = lead ++ (flat S ++ tail) := by rw [J.htxt, List.append_assoc]
  refine ⟨?_, e, ?_⟩
  · rw [e, spans_gap _ _ _ J.hlead.1, Nat.zero_add]
    exact spans_segs S _ tail (fun s hs => (h1 s hs).1) h2 J.htail.1
  · have h3 := flat_le S fun s hs => (h1 s hs).2
    have h4 : S.length = ws.length := by rw [← J.words, List.length_map]
    have h5 := J.hlead.2
    have h6 := J.htail.2
    rw [e]
    simp only [List.length_append]
    (first | lia | omega)
noncomputable def pre (a b : List Int) : List Tb → List Tb
  | [] => []
  | x :: r => ⟨a ++ x.u, b ++ x.v, x.w⟩ :: r
theorem pre_otx {a b : List Int} : ∀ {tb : List Tb}, tb ≠ [] → otx (pre a b tb) = a ++ otx tb
  | [], h => absurd rfl h
  | x :: r, _ => by simp only [pre, otx_cons, List.append_assoc]
theorem pre_ntx {a b : List Int} : ∀ {tb : List Tb}, tb ≠ [] → ntx (pre a b tb) = b ++ ntx tb
  | [], h => absurd rfl h
  | x :: r, _ => by simp only [pre, ntx_cons, List.append_assoc]
theorem pre_qds {a b : List Int} : ∀ {tb : List Tb}, qds 0 0 (pre a b tb) = qds a.length b.length tb
  | [] => rfl
  | x :: r => by simp only [pre, qds, List.length_append, Nat.zero_add]
theorem otx_app (S T : List Tb) : otx (S ++ T) = otx S ++ otx T := by simp [otx]
theorem ntx_app (S T : List Tb) : ntx (S ++ T) = ntx S ++ ntx T := by simp [ntx]
/-- the segments of two joined texts -/
theorem segs_tb {A B ga gb : List (List Int)} {bl : List Bk} {old new fs es lead lead' ta tb : List Int} {S T : List Seg} (M : Mt A B bl ga gb) (hA : ∀ l ∈ A, Wd l ∧ l.length ≤ 3) (hB : ∀ l ∈ B, Wd l ∧ l.length ≤ 3) (J : Joined A old fs lead S ta) (J' : Joined B new es lead' T tb) :
    ∃ t : List Tb, old = otx t ∧ new = ntx t ∧ segs old new = qds 0 0 t ∧ (keptW old new).length = bl.length ∧
      ∀ one other, (one, other) ∈ prs 0 0 bl → ((pos lead.length S).getD one.toNat (0, 0), (pos lead'.length T).getD other.toNat (0, 0)) ∈ segs old new := by
  obtain ⟨s1, e1, _⟩ := J.spans hA
  obtain ⟨s2, e2, _⟩ := J'.spans hB
  obtain ⟨t, ut, vt, i1, i2, i3, i4⟩ := kept_tb (A := A) (ga := ga) (gb := gb) (sa := pos lead.length S) (sb := pos lead'.length T) (new := new) (R := tb) M.gb bl [] [] [] S T lead.length lead'.length lead' M.bk (by rw [J.words]; rfl) rfl rfl rfl (by rw [J.words, M.a]) (by rw [J'.words, M.b]) e2 rfl
  have hk : keptW old new = qds lead.length lead'.length t := by
    unfold keptW
    rw [s1, s2, words_pos S _ old lead ta e1 rfl, J.words]
    exact i3
  have hne : t ++ [⟨ut ++ ta, vt ++ tb, []⟩] ≠ [] := by simp
  have h1 : old = otx (pre lead lead' (t ++ [⟨ut ++ ta, vt ++ tb, []⟩])) := by
    rw [pre_otx hne, otx_app, e1, i1]; simp [otx]
  have h2 : new = ntx (pre lead lead' (t ++ [⟨ut ++ ta, vt ++ tb, []⟩])) := by
    rw [pre_ntx hne, ntx_app, e2, i2]; simp [ntx]
  have h3 : segs old new = qds 0 0 (pre lead lead' (t ++ [⟨ut ++ ta, vt ++ tb, []⟩])) := by
    have l1 : old.length = lead.length + (otx t).length + (ut ++ ta).length := by rw [e1, i1]; simp only [List.length_append]; (first | lia | omega)
    have l2 : new.length = lead'.length + (ntx t).length + (vt ++ tb).length := by rw [e2, i2]; simp only [List.length_append]; (first | lia | omega)
    unfold segs
    rw [pre_qds, qds_snoc, hk, l1, l2]
    simp only [List.length_nil, Nat.add_zero]
  refine ⟨_, h1, h2, h3, ?_, fun one other hp => ?_⟩
  · rw [hk, i4, List.length_map, prs_length]
  · unfold segs
    rw [hk, i4]
    exact List.mem_append_left _ (List.mem_map_of_mem (f := fun pr => ((pos lead.length S).getD pr.1.toNat (0, 0), (pos lead'.length T).getD pr.2.toNat (0, 0))) hp)
theorem turn_law {A B ga gb : List (List Int)} {bl : List Bk} {old new fs es lead lead' ta tb : List Int} {S T : List Seg} (M : Mt A B bl ga gb) (hA : ∀ l ∈ A, Wd l ∧ l.length ≤ 3) (hB : ∀ l ∈ B, Wd l ∧ l.length ≤ 3) (few : A.length ≤ 40 ∧ B.length ≤ 40 ∧ bl.length ≤ 40) (J : Joined A old fs lead S ta) (J' : Joined B new es lead' T tb) :
    (old.length ≤ 250 ∧ new.length ≤ 250) ∧ Chn old.length 0 (segs old new) ∧ (keptW old new).length ≤ 2000 ∧
    (∀ one other wd (letter : Int), (one, other) ∈ prs 0 0 bl → A[one.toNat]? = some wd → 1 ≤ letter → letter < (wd.length : Int) → Inn (segs old new) (fs.getD one.toNat 0 + letter) (es.getD other.toNat 0 + letter)) ∧
    ∀ (head tl : List Int) (s : Int) (E : List Edit), s = head.length + 1 → head.length ≤ 9 → tl.length ≤ 9 → EdR old new 0 0 (segs old new) E →
      appT s (head ++ (old ++ tl)) E = head ++ (new ++ tl) ∧ (∀ y z, Inn (segs old new) y z → appP s E (s + y) = s + z) ∧
      (∀ ps : List Int, (∀ q ∈ ps, ∃ y z, q = s + y ∧ Inn (segs old new) y z) → Okay s (head ++ (old ++ tl)) ps E) ∧ (0 < (E.length : Int) ↔ old ≠ new) := by
  obtain ⟨t, h1, h2, h3, h4, h5⟩ := segs_tb M hA hB J J'
  have l1 := (J.spans hA).2.2
  have l2 := (J'.spans hB).2.2
  refine ⟨⟨by (first | lia | omega), by (first | lia | omega)⟩, ?_, by (first | lia | omega), fun one other wd letter hp hw hl1 hl2 => ?_, fun head tl s E hs hh ht hE => ?_⟩
  · rw [h3]
    exact qds_chn t 0 0 _ (by rw [← h1]; (first | lia | omega))
  · obtain ⟨q, hq, hq2⟩ : ∃ q, (pos lead.length S)[one.toNat]? = some q ∧ q.2 = q.1 + wd.length := by
      rw [← J.words, List.getElem?_map] at hw
      cases hS : S[one.toNat]? with
      | none => rw [hS] at hw; cases hw
      | some x =>
        rw [hS] at hw
        simp only [Option.map_some, Option.some.injEq] at hw
        rw [← hw]
        exact pos_get S _ _ x hS
    have g1 : (pos lead.length S).getD one.toNat (0, 0) = q := by rw [List.getD_eq_getElem?_getD, hq]; rfl
    have hm := h5 one other hp
    rw [g1] at hm
    have f1 : fs.getD one.toNat 0 = q.1 := by rw [J.hfs, jfs_pos, List.getD_eq_getElem?_getD, List.getElem?_map, hq]; rfl
    have f2 : es.getD other.toNat 0 = ((pos lead'.length T).getD other.toNat (0, 0)).1 := by
      rw [J'.hfs, jfs_pos, List.getD_eq_getElem?_getD, List.getElem?_map, List.getD_eq_getElem?_getD]
      cases (pos lead'.length T)[other.toNat]? <;> rfl
    refine ⟨_, hm, ?_, ?_, ?_⟩ <;> (try dsimp only) <;> (first | lia | omega)
  · have hsame := hE
    rw [h3] at hE ⊢
    obtain ⟨k1, k2, k3, k4⟩ := edits_law (tl := tl) hs (by (first | lia | omega)) t [] [] 0 0 E (by rw [h1]; rfl) (by rw [h2]; rfl) rfl rfl hE
    have kT : appT s (head ++ (old ++ tl)) E = head ++ (new ++ tl) := by rw [k1, ← h2]; rfl
    refine ⟨kT, fun y z hi => by rw [k3 y z hi]; (first | lia | omega), fun ps hps => k4 ps fun q hq => ?_, ?_⟩
    · obtain ⟨y, z, e, hi⟩ := hps q hq
      exact ⟨y, e, .inr ⟨z, hi⟩⟩
    · constructor
      · rintro hl rfl
        rw [edits_same hsame] at hl
        exact absurd hl (by decide)
      · intro hne
        cases E with
        | nil =>
          exfalso
          apply hne
          have e : head ++ (old ++ tl) = head ++ (new ++ tl) := kT
          exact List.append_cancel_right (List.append_cancel_left e)
        | cons x r => simp only [List.length_cons]; (first | lia | omega)
/-! the words of the law -/
theorem FrW.wd {l : List Int} (h : FrW l) : Wd l ∧ l.length ≤ 3 := by
  obtain ⟨c, n, h1, h2, h3, h4, rfl⟩ := h
  refine ⟨⟨fun e => ?_, fun x hx => ?_⟩, by rw [List.length_replicate]; (first | lia | omega)⟩
  · have := congrArg List.length e; rw [List.length_replicate] at this; simp at this; (first | lia | omega)
  · rw [(List.mem_replicate.mp hx).2]
    unfold blank
    rw [decide_eq_false_iff_not]
    simp only [List.mem_cons, List.not_mem_nil, or_false]
    (first | lia | omega)
theorem OwW.wd {j : Nat} {l : List Int} (h : OwW j l) : Wd l ∧ l.length ≤ 3 := by
  obtain ⟨n, h3, h4, rfl⟩ := h
  refine ⟨⟨fun e => ?_, fun x hx => ?_⟩, by rw [List.length_replicate]; (first | lia | omega)⟩
  · have := congrArg List.length e; rw [List.length_replicate] at this; simp at this; (first | lia | omega)
  · rw [(List.mem_replicate.mp hx).2]
    unfold blank
    rw [decide_eq_false_iff_not]
    simp only [List.mem_cons, List.not_mem_nil, or_false]
    (first | lia | omega)
theorem rep_head {n m : Nat} {a b : Int} (h : List.replicate n a = List.replicate m b) (hn : 1 ≤ n) : a = b := by
  have h1 : a ∈ List.replicate n a := List.mem_replicate.mpr ⟨by (first | lia | omega), rfl⟩
  rw [h] at h1
  exact (List.mem_replicate.mp h1).2
theorem OwW.ne {i j : Nat} {l : List Int} (h : OwW i l) (h' : OwW j l) : i = j := by
  obtain ⟨n, h1, _, rfl⟩ := h
  obtain ⟨m, _, _, e⟩ := h'
  have := rep_head e (by (first | lia | omega))
  (first | lia | omega)
theorem OwW.fr {i : Nat} {l : List Int} (h : OwW i l) (h' : FrW l) : False := by
  obtain ⟨n, h1, _, rfl⟩ := h
  obtain ⟨c, m, c1, c2, _, _, e⟩ := h'
  have := rep_head e (by (first | lia | omega))
  (first | lia | omega)
theorem own_nodup {W : List (List Int)} (h : ∀ j l, W[j]? = some l → OwW j l) : W.Nodup := by
  rw [List.nodup_iff_pairwise_ne, List.pairwise_iff_getElem]
  intro i j hi hj hij e
  have h1 := h i W[i] (List.getElem?_eq_getElem hi)
  have h2 := h j W[j] (List.getElem?_eq_getElem hj)
  rw [e] at h1
  have := h1.ne h2
  (first | lia | omega)
theorem wfl_split : ∀ (bl : List Bk) (x : Bk), x ∈ bl → ∃ p q, wfl bl = p ++ (x.a ++ (x.w :: q))
  | [], _, h => by cases h
  | y :: r, x, h => by
    rcases List.mem_cons.mp h with rfl | h
    · exact ⟨[], wfl r, by simp [wfl]⟩
    · obtain ⟨p, q, e⟩ := wfl_split r x h
      exact ⟨y.a ++ (y.w :: p), q, by have e' : wfl (y :: r) = y.a ++ (y.w :: wfl r) := by simp [wfl]
                                      rw [e', e]; simp⟩
theorem gone_ne : ∀ (bl : List Bk), (wfl bl).Nodup → ∀ x ∈ bl, ∀ y ∈ bl, y.w ∉ x.a
  | [], _, _, h, _, _ => by cases h
  | z :: r, hn, x, hx, y, hy => by
    have e : wfl (z :: r) = z.a ++ ([z.w] ++ wfl r) := by simp [wfl]
    rw [e] at hn
    obtain ⟨n1, n2, n3⟩ := List.nodup_append.mp hn
    obtain ⟨n4, n5, n6⟩ := List.nodup_append.mp n2
    have hw : ∀ u ∈ r, u.w ∈ wfl r := fun u hu => by
      obtain ⟨p, q, e⟩ := wfl_split r u hu
      rw [e]; simp
    have ha : ∀ u ∈ r, ∀ l ∈ u.a, l ∈ wfl r := fun u hu l hl => by
      obtain ⟨p, q, e⟩ := wfl_split r u hu
      rw [e]; simp [hl]
    rcases List.mem_cons.mp hx with e1 | hx' <;> rcases List.mem_cons.mp hy with e2 | hy'
    · subst e1 e2; intro h; exact n3 _ h _ (List.mem_append_left _ (.head _)) rfl
    · subst e1; intro h; exact n3 _ h _ (List.mem_append_right _ (hw y hy')) rfl
    · subst e2; intro h; exact n6 _ (.head _) _ (ha x hx' _ h) rfl
    · exact gone_ne r n5 x hx' y hy'
theorem mem_ofl {bl : List Bk} {l : List Int} (h : l ∈ ofl bl) : ∃ x ∈ bl, l ∈ x.b ∨ l = x.w := by
  unfold ofl at h
  obtain ⟨x, hx, hl⟩ := List.mem_flatMap.mp h
  rcases List.mem_append.mp hl with hl | hl
  · exact ⟨x, hx, .inl hl⟩
  · exact ⟨x, hx, .inr (List.mem_singleton.mp hl)⟩
noncomputable def swb (bl : List Bk) : List Bk := bl.map fun x => ⟨x.b, x.a, x.w⟩
theorem swb_w (bl : List Bk) : wfl (swb bl) = ofl bl := by simp [swb, wfl, ofl, List.flatMap_map]
theorem swb_o (bl : List Bk) : ofl (swb bl) = wfl bl := by simp [swb, wfl, ofl, List.flatMap_map]
theorem swb_prs : ∀ (bl : List Bk) (p q : Nat), prs q p (swb bl) = (prs p q bl).map fun x => (x.2, x.1)
  | [], _, _ => rfl
  | x :: r, p, q => by
    have := swb_prs r (p + x.a.length + 1) (q + x.b.length + 1)
    simp only [swb, List.map_cons, prs] at this ⊢
    rw [this]
section
variable {W O gt ft : List (List Int)} {Ps : List (Int × Int)} {bl : List Bk}
theorem WordsR.wW (R : WordsR W O Ps bl gt ft) : ∀ l ∈ W, Wd l ∧ l.length ≤ 3 := fun l hl => by
  obtain ⟨j, hj⟩ := List.getElem?_of_mem hl
  exact (R.own j l hj).wd
theorem WordsR.kept_in (R : WordsR W O Ps bl gt ft) {x : Bk} (hx : x ∈ bl) : x.w ∈ W ∧ ∀ l ∈ x.a, l ∈ W := by
  obtain ⟨p, q, e⟩ := wfl_split bl x hx
  rw [R.w, e]
  refine ⟨by simp, fun l hl => by simp [hl]⟩
theorem WordsR.fr_not (R : WordsR W O Ps bl gt ft) {l : List Int} (h : FrW l) : l ∉ W := fun hl => by
  obtain ⟨j, hj⟩ := List.getElem?_of_mem hl
  exact (R.own j l hj).fr h
theorem WordsR.wO (R : WordsR W O Ps bl gt ft) : ∀ l ∈ O, Wd l ∧ l.length ≤ 3 := fun l hl => by
  rw [R.o] at hl
  rcases List.mem_append.mp hl with hl | hl
  · obtain ⟨x, hx, hl | rfl⟩ := mem_ofl hl
    · exact ((R.bk x hx).2.2 l hl).wd
    · exact R.wW _ (R.kept_in hx).1
  · exact (R.fts l hl).wd
theorem WordsR.mt (R : WordsR W O Ps bl gt ft) : Mt W O bl gt ft := by
  have hn := own_nodup R.own
  rw [R.w] at hn
  have hn1 := (List.nodup_append.mp hn).1
  refine ⟨R.w, R.o, fun x hx => ⟨(R.bk x hx).1, gone_ne bl hn1 x hx x hx, fun l hl => R.fr_not ((R.bk x hx).2.2 l hl)⟩, fun l hl => R.fr_not (R.fts l hl)⟩
theorem WordsR.tm (R : WordsR W O Ps bl gt ft) : Mt O W (swb bl) ft gt := by
  have hn := own_nodup R.own
  rw [R.w] at hn
  obtain ⟨hn1, _, hn3⟩ := List.nodup_append.mp hn
  have hno : ∀ l ∈ W, (∀ y ∈ bl, l ≠ y.w) → l ∉ O := fun l hl hy ho => by
    rw [R.o] at ho
    rcases List.mem_append.mp ho with ho | ho
    · obtain ⟨x, hx, hb | hb⟩ := mem_ofl ho
      · exact R.fr_not ((R.bk x hx).2.2 l hb) hl
      · exact hy x hx hb
    · exact R.fr_not (R.fts l ho) hl
  refine ⟨by rw [R.o, swb_w], by rw [R.w, swb_o], fun x hx => ?_, fun l hl => ?_⟩
  · obtain ⟨y, hy, rfl⟩ := List.mem_map.mp hx
    refine ⟨(R.bk y hy).2.1, fun h => R.fr_not ((R.bk y hy).2.2 _ h) (R.kept_in hy).1, fun l hl => ?_⟩
    exact hno l ((R.kept_in hy).2 l hl) fun z hz e => gone_ne bl hn1 y hy z hz (e ▸ hl)
  · refine hno l (by rw [R.w]; exact List.mem_append_right _ hl) fun y hy e => ?_
    obtain ⟨p, q, e2⟩ := wfl_split bl y hy
    exact hn3 y.w (by rw [e2]; simp) l hl e.symm
theorem wfl_length (bl : List Bk) : bl.length ≤ (wfl bl).length := by
  induction bl with
  | nil => exact Nat.le_refl _
  | cons x r ih =>
    have e : wfl (x :: r) = x.a ++ ([x.w] ++ wfl r) := by simp [wfl]
    rw [e]; simp only [List.length_append, List.length_cons, List.length_nil]; (first | lia | omega)
theorem ofl_length {bl : List Bk} (h : ∀ x ∈ bl, x.b.length ≤ 3) : (ofl bl).length ≤ 4 * bl.length := by
  induction bl with
  | nil => exact Nat.le_refl _
  | cons x r ih =>
    have e : ofl (x :: r) = x.b ++ ([x.w] ++ ofl r) := by simp [ofl]
    have h1 := h x (.head _)
    have h2 := ih fun y hy => h y (.tail _ hy)
    rw [e]; simp only [List.length_append, List.length_cons, List.length_nil]; (first | lia | omega)
theorem WordsR.few3 (R : WordsR W O Ps bl gt ft) : W.length ≤ 8 ∧ O.length ≤ 40 ∧ bl.length ≤ 8 := by
  have h1 := wfl_length bl
  have h2 := ofl_length fun x hx => (R.bk x hx).2.1
  have h3 := R.few
  have h4 := congrArg List.length R.w
  have h5 := congrArg List.length R.o
  rw [List.length_append] at h4 h5
  (first | lia | omega)
/-- the pair's two words are one word -/
theorem prs_word : ∀ (bl : List Bk) (A0 B0 ga gb : List (List Int)) (one other : Int), (one, other) ∈ prs A0.length B0.length bl → 0 ≤ one ∧ 0 ≤ other ∧ ∃ x ∈ bl, (A0 ++ (wfl bl ++ ga))[one.toNat]? = some x.w ∧ (B0 ++ (ofl bl ++ gb))[other.toNat]? = some x.w
  | [], _, _, _, _, _, _, h => by cases h
  | x :: r, A0, B0, ga, gb, one, other, h => by
    rw [prs] at h
    have eW : A0 ++ (wfl (x :: r) ++ ga) = (A0 ++ (x.a ++ [x.w])) ++ (wfl r ++ ga) := by simp [wfl]
    have eO : B0 ++ (ofl (x :: r) ++ gb) = (B0 ++ (x.b ++ [x.w])) ++ (ofl r ++ gb) := by simp [ofl]
    rw [eW, eO]
    rcases List.mem_cons.mp h with h | h
    · obtain ⟨rfl, rfl⟩ := Prod.mk.inj h
      refine ⟨by (first | lia | omega), by (first | lia | omega), x, .head _, ?_, ?_⟩
      · rw [Int.toNat_natCast, List.getElem?_append_left (by simp only [List.length_append, List.length_cons, List.length_nil]; (first | lia | omega)), List.getElem?_append_right (by (first | lia | omega)), show A0.length + x.a.length - A0.length = x.a.length by (first | lia | omega), List.getElem?_append_right (Nat.le_refl _), Nat.sub_self]; rfl
      · rw [Int.toNat_natCast, List.getElem?_append_left (by simp only [List.length_append, List.length_cons, List.length_nil]; (first | lia | omega)), List.getElem?_append_right (by (first | lia | omega)), show B0.length + x.b.length - B0.length = x.b.length by (first | lia | omega), List.getElem?_append_right (Nat.le_refl _), Nat.sub_self]; rfl
    · have e1 : A0.length + x.a.length + 1 = (A0 ++ (x.a ++ [x.w])).length := by simp only [List.length_append, List.length_cons, List.length_nil]; (first | lia | omega)
      have e2 : B0.length + x.b.length + 1 = (B0 ++ (x.b ++ [x.w])).length := by simp only [List.length_append, List.length_cons, List.length_nil]; (first | lia | omega)
      rw [e1, e2] at h
      obtain ⟨h1, h2, y, hy, h3, h4⟩ := prs_word r _ _ ga gb one other h
      exact ⟨h1, h2, y, .tail _ hy, h3, h4⟩
theorem WordsR.pair (R : WordsR W O Ps bl gt ft) {one other : Int} (h : (one, other) ∈ Ps) : 0 ≤ one ∧ 0 ≤ other ∧ ∃ wd, W[one.toNat]? = some wd ∧ O[other.toNat]? = some wd ∧ 2 ≤ wd.length ∧ wd.length ≤ 3 := by
  rw [R.p] at h
  obtain ⟨h1, h2, x, hx, h3, h4⟩ := prs_word bl [] [] gt ft one other h
  rw [List.nil_append, ← R.w] at h3
  rw [List.nil_append, ← R.o] at h4
  obtain ⟨n, n1, n2, e⟩ := R.own _ _ h3
  exact ⟨h1, h2, x.w, h3, h4, by rw [e, List.length_replicate]; (first | lia | omega), by rw [e, List.length_replicate]; (first | lia | omega)⟩
end
end Mine
namespace Mine
/-! several targets, out of a list -/
section
variable {prog : Program} {w : World} {A : Around} {E : Value → Shared → Prop}
theorem draw_lst {it t : Addr} {items : Array Value} (hne : t ≠ it) : ∀ (n i : Nat) (s : Shared) (Q : List Value → Shared → Prop), s.heap.IsListIter it t i → s.heap.IsList t items → i + n ≤ items.size →
    (∀ h', h'.IsListIter it t (i + n) → Heap.SameBut it s.heap h' → Q ((items.toList.drop i).take n) { s with heap := h' }) → wpAny (model prog w) A (draw (.ref it) n) Q E s
  | 0, i, s, Q, hit, _, _, hQ => by
    show wpAny _ _ (pure []) Q E s
    exact wpAny_pure (by simpa using hQ s.heap hit (Heap.SameBut.refl ..))
  | n + 1, i, s, Q, hit, ht, hle, hQ => by
    have hlt : i < items.size := by (first | lia | omega)
    show wpAny _ _ (pyNext (.ref it) >>= _) Q E s
    refine wpAny_bind (wpAny_pyNext_list_item hit ht (x := items[i]) (by simp [hlt]) fun h₁ hit₁ hs₁ => ?_)
    refine wpAny_bind (wpAny_holding (draw_lst hne n (i + 1) _ _ hit₁ (ht.extBut hs₁.extBut hne) (by (first | lia | omega)) fun h₂ hit₂ hs₂ => wpAny_pure ?_))
    have hd : items.toList.drop i = items[i] :: items.toList.drop (i + 1) := by simp [List.drop_eq_getElem_cons, hlt]
    have := hQ h₂ (by rw [show i + (n + 1) = i + 1 + n by (first | lia | omega)]; exact hit₂) (hs₁.trans hs₂)
    rw [hd, List.take_succ_cons] at this
    exact this
theorem unpackItems_lst {s : Shared} {t : Addr} {items : Array Value} {Q : List Value → Shared → Prop} (hh : A.handled = none) (ht : s.heap.IsList t items)
    (hQ : ∀ h', Heap.ExtBut s.heap.objs.size s.heap h' → Q items.toList { s with heap := h' }) : wpAny (model prog w) A (unpackItems (.ref t) items.size none) Q E s := by
  have hlt : t ≠ s.heap.objs.size := by obtain ⟨o, ho, _⟩ := ht; exact Nat.ne_of_lt (Heap.lt_size ho)
  unfold unpackItems
  refine wpAny_bind ?_
  · unfold notIterableAtAll
    refine wpAny_bind (wpAny_specialOf ht.typeIs PySem.F.slot_list_iter.lookup ?_)
    refine wpAny_pure ?_
    simp only [Bool.false_eq_true, if_false]
    refine wpAny_bind (wpAny_holding (wpAny_pyIter_list ht ?_))
    refine wpAny_bind (wpAny_holding (draw_lst hlt items.size 0 _ _ ⟨_, Heap.get?_push_size _ rfl, rfl, rfl⟩ (ht.push _) (by (first | lia | omega)) fun h₁ hit₁ hs₁ => ?_))
    have hall : List.take items.size (List.drop 0 items.toList) = items.toList := by
      rw [List.drop_zero]; exact List.take_of_length_le (by simp)
    rw [hall]
    rw [if_neg (by simp)]
    have ht₁ : h₁.IsList t items := (ht.push _).extBut hs₁.extBut hlt
    refine wpAny_bind (wpAny_holding (wpAny_pyNext_list_end hh hit₁ ht₁ (by simp) fun h₂ he₂ => ?_))
    simp only [Option.isSome_none, Bool.false_eq_true, if_false]
    refine wpAny_pure (hQ h₂ fun b o hb e => he₂ b o hb (hs₁.extBut b o hb (Heap.get?_push_of_some _ e)))
end
section
variable {e : Ent} {nm gl : List Str} {L : Addr} {g h h0 : Heap} {vals vals' : List (Option Value)} {news : List (Addr × Obj)} {prog : Program} {w : World} {A : Around} {E : Value → Shared → Prop} {gs : Array GenState} {dr : Drawn} {tk : Nat} {os : OsState} {m : Nat}
theorem r_asgL {elts : List Expr} {k0 : Nat} {pos : Pos} {env : Env} {t : Addr} {vs : List Value} {Q : Unit → Shared → Prop} (R : Room A m) (S : St e nm L g h vals news) (ht : LstAt h t vs)
    (k : ∀ h', St e nm L g h' vals news → asgK (model prog w) A elts env vs Q E ⟨h', gs, dr, tk, os⟩)
    (hn : (assignEach elts env).length = vs.length := by rfl) (hstar : (assignEach elts env).findIdx? (·.1) = none := by rfl) : wpAny (model prog w) A (assign (.Tuple elts k0 pos) env (.ref t)) Q E ⟨h, gs, dr, tk, os⟩ := by
  rw [assign_Tuple]
  refine wpAny_bind (wpAny_standAt ?_)
  unfold unpack
  rw [hstar, hn, show vs.length = vs.toArray.size from rfl]
  exact wpAny_bind (wpAny_holding (unpackItems_lst R.h ht.isList fun h' hk => k h' (S.grow (keepsLe hk))))
/-- a list against the empty list -/
theorem r_neE {Q : Value → Shared → Prop} {l k : Addr} {vs : List Value} (R : Room A m) (hl : LstAt h0 l vs) (hk : LstAt h0 k []) (h : Q (.bool (!decide (vs.length = 0))) ⟨h0, gs, dr, tk, os⟩) : wpAny (model prog w) A (compareOp .NotEq (.ref l) (.ref k)) Q E ⟨h0, gs, dr, tk, os⟩ := by
  have hu : A.units < cLine := by have := R.u; (first | lia | omega)
  cases vs with
  | nil => exact PySem.SeqAt.RcNeAt.lists (items := #[]) (items2 := #[]) (e := fun _ => true) hl.isList hk.isList rfl hu (fun j h1 _ => absurd h1 (Nat.not_lt_zero _)) prog w E Q h
  | cons v r => exact PySem.SeqAt.RcNeAt.lists_lengths hl.isList hk.isList rfl hu prog w E Q h
/-- the law's own frame, with its cell -/
theorem law_entry {G h₁ : Heap} {c : Addr} {o : Obj} {x : Str} {v : Value} {more : List Str} {env : Env} {gl : List Str} {cl : List (Str × Addr)} (F : Fr G G.objs.size h₁ (bindL env.kindOf [(x, v)] (fun _ => none))) (N : News G G.objs.size h₁ [(c, o)]) (I : EnvIs env (x :: more) gl cl G.objs.size) :
    St (ent G G G []) (x :: more) G.objs.size G h₁ (some v :: more.map fun _ => none) [(c, o)] := by
  have hN := N (c, o) (.head _)
  have hns : h₁.Ns G.objs.size (lkV (x :: more) (some v :: more.map fun _ => none)) := by
    have e1 : bindL env.kindOf [(x, v)] (fun _ => none) = lkV (x :: more) (some v :: more.map fun _ => none) := by
      have h1 : ∀ (l : List Str) y, lkV l (l.map fun _ => none) y = none := fun l y => by
        induction l with
        | nil => rfl
        | cons a r ih => simp only [List.map_cons, lkV]; split <;> first | rfl | exact ih
      funext y
      unfold bindL
      rw [if_pos (I.loc x (.head _))]
      simp only [bindL, lkV]
      split
      · rfl
      · exact (h1 more y).symm
    rw [← e1]; exact F.ns
  refine ⟨⟨F.keep, fun p hp => ?_, List.nodup_cons.mpr ⟨List.not_mem_nil, List.nodup_nil⟩, fun _ _ q => q, fun b o q _ => F.keep b o q, fun _ _ q => .inl q, fun p hp => ?_, fun b hb => (nomatch hb), fun _ _ q => q⟩, hns, get_none_size G, fun p hp => ?_, F.above, get_none_size G, fun hw => by cases hw⟩
  all_goals (rw [List.mem_singleton.mp hp])
  · exact ⟨hN.1, hN.2.2⟩
  · exact .inr hN.2.2
  · exact hN.2.1
/-- the head of a list, as the caller laid it -/
theorem pick_hd (vs : List Value) {y : Int} (hy : 0 ≤ y) : slicePick vs.toArray none (some y) none = (sl vs 0 y).toArray := by
  rw [← pick_sl vs (Int.le_refl 0) hy, slicePick_plain, slicePick_plain]
  rfl
theorem r_hd {l sa : Addr} {vs : List Value} {ns : List Int} {vu : Value} {y : Int} {value slice : Expr} {ops : List Value} {Q : Value → Shared → Prop} (S : St e nm L g h0 vals news) (hl : h0.IsList l vs.toArray) (hi : IntsAre vs ns) (hs : SlcAt h0 sa .none vu .none) (pu : IsPart vu (some y))
    (hx : 0 ≤ y ∧ ns.length ≤ 2 ^ 20)
    (k : ∀ r h' g', Le g g' → IntsAt g' r (sl ns 0 y) → St e nm L g' h' vals news → Q (.ref r) ⟨h', gs, dr, tk, os⟩)
    (hsub : subscripted slice false (.ref l) (.ref sa) = operate ops (getItem (.ref l) (.ref sa)) := by with_unfolding_all rfl) : wpAny (model prog w) A (subscriptTail value slice (.ref l) (.ref sa)) Q E ⟨h0, gs, dr, tk, os⟩ := by
  have e1 := hi.length
  obtain ⟨g', k1, k2, k3⟩ := S.pushI { cls := .type "list", data := .seq (sl vs 0 y).toArray } rfl
  refine tail_any hl.typeIs slot_list_getitem.lookup (wpAny_getItem_list_slice hl hs.is .none pu .none (by simp) ?_ (by rw [List.size_toArray, sizeLine_eq]; (first | lia | omega))) hsub
  rw [pick_hd vs hx.1]
  exact k _ _ g' k1 ⟨_, k2, _, ⟨0, rfl⟩, sl_ints hi 0 y⟩ k3
/-- what the law's walk ends with -/
noncomputable def doneK (G : Heap) (L : Addr) (gs : Array GenState) (dr : Drawn) (os : OsState) : Flow → Shared → Prop := fun fl s' => fl = .ret (.bool true) ∧ ∃ h' tk' m, s' = ⟨h', gs, dr, tk', os⟩ ∧ Fr G L h' m
theorem claimRoom (env : Env) : Room (callerA.deeper env) 40 := Room.deeper ⟨rfl, by decide +kernel, by decide +kernel⟩ env
theorem law_in {M : Model} {G h₁ : Heap} {a c : Addr} {cd : Value} {o : Obj} {x y : Str} {v : Value} {name : Str} {outer : Scope} {env : Env} (more gl : List Str) (vals : List (Option Value)) {body : List Stmt} {Q : Flow → Shared → Prop}
    (F : Fr G G.objs.size h₁ (bindL (envOfC name outer G.objs.size a cd).kindOf [(x, v)] (fun _ => none))) (N : News G G.objs.size h₁ [(c, o)]) (ho : CellO o none) (hE : envB outer (x :: more) gl [y] = true) (hc : (cellsFrom (G.objs.size + 1) outer.names []).lookup y = some c)
    (hv : vals = some v :: more.map fun _ => none)
    (k : ∀ A oc, Room A 40 → CellO oc none → EnvIs (envOfC name outer G.objs.size a cd) (x :: more) gl [(y, c)] G.objs.size → St (ent G G G []) (x :: more) G.objs.size G h₁ vals [(c, oc)] →
      wpAny M A (execs body (envOfC name outer G.objs.size a cd)) (doneK G G.objs.size gs dr os) nE ⟨h₁, gs, dr, tk, os⟩)
    (hQ : ∀ fl s', doneK G G.objs.size gs dr os fl s' → Q fl s') : wpAny M (callerA.deeper env) (execs body (envOfC name outer G.objs.size a cd)) Q E ⟨h₁, gs, dr, tk, os⟩ := by
  have I := EnvIs.ofC (name := name) (a := a) (cd := cd) hE hc
  subst hv
  exact wpAny_mono (k _ o (claimRoom _) ho I (law_entry F N I)) hQ fun _ _ z => z.elim
end
end Mine
namespace Mine
section
variable {K : Frag} {mg mb : Str → Option Value} {e : Ent} {nm gl : List Str} {cl : List (Str × Addr)} {L : Addr} {g h h0 : Heap} {vals vals' : List (Option Value)} {valsD : Addr → List (Option Value)} {news : List (Addr × Obj)} {prog : Program} {w : World} {A : Around} {E : Value → Shared → Prop} {gs : Array GenState} {dr : Drawn} {tk : Nat} {os : OsState} {env : Env} {m : Nat}
/-- an object that is none of ours has changed -/
theorem St.other (S : St e nm L g h vals news) {h' : Heap} {C : Addr} (hs : Heap.SameBut C h h') (hg : g.get? C = none) (hn : ∀ p ∈ news, p.1 ≠ C) (hL : L ≠ C) (hH : e.H.get? C = none) (hW : C ∉ e.W) : St e nm L g h' vals news := by
  have hk : ∀ b o, b ≠ C → h.get? b = some o → h'.get? b = some o := fun b o hb q => (hs.2 b hb).trans q
  refine ⟨⟨fun b o q => hk b o (fun hb => ?_) (S.mem.keep b o q), fun p hp => ⟨hk _ _ (hn p hp) (S.mem.hold p hp).1, (S.mem.hold p hp).2⟩, S.mem.nd, S.mem.base, fun b o q hw => hk b o (fun hb => ?_) (S.mem.kept b o q hw), S.mem.fresh, S.mem.own, fun b hb => ?_, S.mem.G0⟩, S.ns.at' fun o q => (hs.2 _ hL).trans q, S.off, S.Ln, S.Gs, S.Lf, S.LW⟩
  · rw [hb, hg] at q; cases q
  · rw [hb, hH] at q; cases q
  · have hbl : b ≠ C := fun q => hW (q ▸ hb)
    rw [hs.2 b hbl]; exact S.mem.alive b hb
theorem r_compWA {elt iter : Expr} {x : Str} {px : Pos} {ifs : List Expr} {scope : Scope} {cs : List (Str × Addr)} {pos : Pos} {y : Str} {py : Pos} {Q : Flow → Shared → Prop} {fp : List Addr} {n : Nat} {Pt : Nat → Value → Prop} {Sw : Nat → Heap → Prop} {oI : Obj}
    (W : Walks prog w A h.objs.size fp [h.objs.size] n Pt Sw) (I : EnvIs env nm gl cl L) (S : St e nm L g h vals news) (ha : ∀ D, SetAt nm vals y (.ref D) (valsD D)) (hoI : oI.isFreed = false) (hfp : ∀ b ∈ fp, b = h.objs.size ∨ ∃ o, g.get? b = some o) (hlive : ∀ i h', Sw i h' → h'.get? h.objs.size ≠ none) (hst : Sw 0 (h.push oI)) (hn : n ≤ 1000)
    (hkind : scope.kind = .function) (hcell : (scope.names.all fun y => y.2 != .cell) = true) (hx : scope.names.lookup x = some .local)
    (J : Nat → Heap → List Value → List (Addr × Obj) → Prop) (_ : ∀ i g g' ys l, Le g g' → J i g ys l → J i g' ys l) (h0 : J 0 g [] news)
    (step : ∀ i v C g1 h1 tk1 ys news1 own1, i < n → Pt i v → Le g g1 → J i g1 ys news1 → ys.length ≤ i → St (ent e.G h g news) [x] C g1 h1 [some v] (news1 ++ own1) →
      wpAny (model prog w) A (forIn ifs true fun c r => if r = true then do let ok ← isTrue c (compEnvC scope cs C env) (eval c (compEnvC scope cs C env)); pure (ForInStep.yield ok) else pure (ForInStep.yield r)) (fun ok s3 =>
        if ok = true then wpAny (model prog w) A (eval elt (compEnvC scope cs C env)) (fun y s4 => compN (ent e.G h g news) x C g1 gs dr os v own1 J (i + 1) (ys ++ [y]) s4) nE s3
        else compN (ent e.G h g news) x C g1 gs dr os v own1 J (i + 1) ys s3) nE ⟨h1, gs, dr, tk1, os⟩)
    (done : ∀ r o g1 h1 tk1 ys news1, Le g g1 → LstO o ys → St e nm L g1 h1 (valsD r) ((r, o) :: news1) → J n g1 ys news1 → Q .next ⟨h1, gs, dr, tk1, os⟩) :
    wpAny (model prog w) A (newList []) (fun acc s₃ => wpAny (model prog w) A (newFunctionEnv scope env.globals cs [] env.qual none .none (some env)) (fun cenv s₄ =>
      codeAny (model prog w) A (.compStart (.ListComp elt [⟨.Name x px, iter, ifs, 0⟩] scope pos) 0 (.ref h.objs.size) acc { cenv with scope := relabel scope env }) (compPost (model prog w) A nE (some (assign (.Name y py) env)) (fun _ s' => Q .next s') acc cenv.locals) s₄) nE s₃) nE ⟨h.push oI, gs, dr, tk, os⟩ := by
  refine r_compG W S hoI hfp hlive hst hn hkind hcell hx J h0 step fun D C g' h₂ tk₂ ys news' vx hDC fDh fC hle S3 hJ => ?_
  have M := S3.letgo (Heap.SameBut.refl ..)
  have S5 : St e nm L g h vals (news ++ []) := by rw [List.append_nil]; exact S
  obtain ⟨_, S6⟩ := S5.after M
  rw [List.append_nil] at S6
  have S7 := S6.perm (news' := (D, LCg.lst ys) :: news') (List.perm_append_singleton _ _)
  have hCL : L ≠ C := (S.nofree fC).2.2.1.symm
  show wpAny _ A (assign (.Name y py) env (.ref D)) _ _ _
  refine wpAny_assign_Name (wpAny_storeName_local (I.loc _ (ha 0).mem) (by rw [I.lo]; exact S7.ns) (fun h₄ hn₄ hs₄ => ?_) (by rw [I.fn]; rfl))
  rw [I.lo] at hn₄ hs₄
  have S8 := S7.store (vals' := valsD D) (by rw [← (ha _).lk I.nd]; exact hn₄) hs₄
  refine ⟨_, S3.ns.sameBut hs₄ hCL.symm, fun h₃ hs₃ => ?_⟩
  refine done _ _ g' h₃ _ ys news' hle ⟨_, rfl⟩ (S8.other hs₃ S3.off (fun p hp => ?_) hCL (S.nofree fC).2.1 (S.nofree fC).2.2.2.1) hJ
  rcases List.mem_cons.mp hp with rfl | hp
  · exact hDC
  · exact S3.Ln p (List.mem_append_left _ hp)

noncomputable def CompU (prog : Program) (w : World) (A : Around) (elt iter : Expr) (x : Str) (px : Pos) (ifs : List Expr) (scope : Scope) (cs : List (Str × Addr)) (pos : Pos) (env : Env) (y : Str) (py : Pos) (Q : Flow → Shared → Prop) (E : Value → Shared → Prop) : Value → Shared → Prop := fun xv s₁ =>
  wpAny (model prog w) A (pyIter xv) (fun it s₂ => wpAny (model prog w) A (newList []) (fun acc s₃ => wpAny (model prog w) A (newFunctionEnv scope env.globals cs [] env.qual none .none (some env)) (fun cenv s₄ =>
    codeAny (model prog w) A (.compStart (.ListComp elt [⟨.Name x px, iter, ifs, 0⟩] scope pos) 0 it acc { cenv with scope := relabel scope env }) (compPost (model prog w) A E (some (assign (.Name y py) env)) (fun _ s' => Q .next s') acc cenv.locals) s₄) E s₃) E s₂) E s₁
theorem x_compA {elt iter : Expr} {x y : Str} {px py : Pos} {ifs : List Expr} {scope : Scope} {cs : List (Str × Addr)} {pos spos : Pos} {s : Shared} {Q : Flow → Shared → Prop} (hclos : closureFor scope env = pure cs)
    (hsw : swapsWith (.ListComp elt [⟨.Name x px, iter, ifs, 0⟩] scope pos) (some (.Name y py)) spos.line env = pure true)
    (h : wpAny (model prog w) A (eval iter env) (CompU prog w A elt iter x px ifs scope cs pos env y py Q E) E s) (hkind : scope.kind = .function := by rfl) (hnames : (scope.names.all fun y => y.2 != .local || scope.names.lookup y.1 == some .local) = true := by rfl)
    (hs : ∀ x, foldedSetIterable iter env x = pure x := by intro _; rfl) : wpAny (model prog w) A (exec (.Assign [.Name y py] (.ListComp elt [⟨.Name x px, iter, ifs, 0⟩] scope pos) spos) env) Q E s := by
  rw [exec_Assign_Name_used _ _ _ _ hsw]
  refine wpAny_bind (wpAny_standAt (wpAny_bind ?_))
  show wpAny _ A (do let _ ← comprehension (.ListComp elt [⟨.Name x px, iter, ifs, 0⟩] scope pos) scope env _ (newList []) false (eval iter env) (some (assign (.Name y py) env))) _ _ s
  refine wpAny_bind (wpAny_mono (wpAny_comprehension_free (use := some (assign (.Name y py) env)) (Q := fun _ s' => Q .next s') rfl hs hclos hkind (fun y hy hl => ?_) h) (fun _ s' hq => wpAny_pure (wpAny_pure hq)) fun _ _ e => e)
  have := List.all_eq_true.mp hnames y hy
  rw [hl] at this
  simpa using this
/-- over a list that no longer changes, no test -/
theorem r_compLA {elt iter : Expr} {x y : Str} {px py : Pos} {scope : Scope} {cs : List (Str × Addr)} {pos : Pos} {Q : Flow → Shared → Prop} {r : Addr} {vs : List Value} (R : Room A m) (I : EnvIs env nm gl cl L) (S : St e nm L g h vals news) (ha : ∀ D, SetAt nm vals y (.ref D) (valsD D)) (hr : LstAt g r vs) (hn : vs.length ≤ 1000)
    (hkind : scope.kind = .function) (hcell : (scope.names.all fun y => y.2 != .cell) = true) (hx : scope.names.lookup x = some .local)
    (J : Nat → Heap → List Value → List (Addr × Obj) → Prop) (hmono : ∀ i g g' ys l, Le g g' → J i g ys l → J i g' ys l) (h0 : J 0 g [] news)
    (step : ∀ i v C g1 h1 tk1 ys news1 own1, vs[i]? = some v → Le g g1 → J i g1 ys news1 → ys.length ≤ i → St (ent e.G h g news) [x] C g1 h1 [some v] (news1 ++ own1) →
      wpAny (model prog w) A (eval elt (compEnvC scope cs C env)) (fun y s4 => compN (ent e.G h g news) x C g1 gs dr os v own1 J (i + 1) (ys ++ [y]) s4) nE ⟨h1, gs, dr, tk1, os⟩)
    (done : ∀ r o g1 h1 tk1 ys news1, Le g g1 → LstO o ys → St e nm L g1 h1 (valsD r) ((r, o) :: news1) → J vs.length g1 ys news1 → Q .next ⟨h1, gs, dr, tk1, os⟩) :
    CompU prog w A elt iter x px [] scope cs pos env y py Q nE (.ref r) ⟨h, gs, dr, tk, os⟩ := by
  have hl : LstAt h r vs := hr.le S.le
  obtain ⟨o, ho, _⟩ := hl
  have hlt := Heap.lt_size ho
  have hl : LstAt h r vs := hr.le S.le
  refine wpAny_pyIter_list hl.isList ?_
  refine r_compWA (Walks.list (prog := prog) (w := w) R.h h.objs.size r (Nat.ne_of_lt hlt) vs.toArray) I S ha rfl (fun b hb => ?_) (fun i h' st => ?_) ⟨⟨_, Heap.get?_push_size _ rfl, rfl, rfl⟩, (hl.isList).push _⟩ (by simpa using hn) hkind hcell hx J hmono h0 (fun i v C g1 h1 tk1 ys news1 own1 hi hP hle hJ hyl S1 => wpAny_tests_nil (by simp only [if_true]; exact step i v C g1 h1 tk1 ys news1 own1 (by simpa using hP) hle hJ hyl S1)) (by simpa using done)
  · rcases List.mem_cons.mp hb with rfl | hb
    · exact .inl rfl
    · rw [List.mem_singleton.mp hb]
      obtain ⟨o, q, _⟩ := hr
      exact .inr ⟨o, q⟩
  · obtain ⟨o, q, _⟩ := st.1
    rw [q]; exact fun z => by cases z
end
end Mine
namespace Mine
/-! the law's own rows -/
structure Rw where
  x : Addr
  a : Int
  b : Int
noncomputable def RwAt (g : Heap) (v : Value) (r : Rw) : Prop := ∃ q t u, v = .ref q ∧ LstAt g q [.ref r.x, .int r.a t, .int r.b u]
theorem LsAre.rwle {g h vs} {ps : List Rw} (x : LsAre RwAt g vs ps) (k : Le g h) : LsAre RwAt h vs ps := x.le fun _ _ ⟨q, t, u, a, b⟩ => ⟨q, t, u, a, b.le k⟩
noncomputable def RowOk (s : Int) (Ws : List (List Int)) (Ps : List (Int × Int)) (fs es : List Int) (r : Rw) : Prop := ∃ one other letter wd, (one, other) ∈ Ps ∧ Ws[one.toNat]? = some wd ∧ 1 ≤ letter ∧ letter < (wd.length : Int) ∧ r.a = s + es.getD other.toNat 0 + letter ∧ r.b = s + fs.getD one.toNat 0 + letter
theorem stored_new {l : List Mk} {n : Int} {x dx : Addr} {adv : Bool} {p : Int} (h : ∀ m ∈ l, m.num < n) : stored (MkTab l) n (.ref x) = MkTab (l ++ [⟨n, x, dx, adv, p⟩]) := by
  unfold stored
  rw [if_neg, MkTab, MkTab, List.map_append]
  · rfl
  · simp only [MkTab, List.any_map, List.any_eq_true, Function.comp_apply, decide_eq_true_eq, not_exists, not_and]
    intro m hm e
    have := h m hm
    (first | lia | omega)
theorem MksO.find {P : Params} {b : Addr} {l : List Mk} {marks : List (Addr × Obj)} (h : MksO P b l marks) {m : Mk} (hm : m ∈ l) : ∃ o, (m.dx, o) ∈ marks ∧ MkO P b m o := by
  induction h with
  | nil => cases hm
  | cons h1 _ ih =>
    rcases List.mem_cons.mp hm with rfl | hm
    · exact ⟨_, .head _, h1⟩
    · obtain ⟨o, k1, k2⟩ := ih hm
      exact ⟨o, .tail _ k1, k2⟩
/-- what a turn needs of the two texts -/
structure TF (s : Int) (hdl A B tal : List Int) (rows : List Rw) (f f' : Rw → Int) : Prop where
  lens : A.length ≤ 250 ∧ B.length ≤ 250
  chn : Chn A.length 0 (segs A B)
  few : (keptW A B).length ≤ 2000
  edit : ∀ E, EdR A B 0 0 (segs A B) E → appT s (hdl ++ (A ++ tal)) E = hdl ++ (B ++ tal) ∧ (∀ r ∈ rows, appP s E (f r) = f' r) ∧ (∀ ps : List Int, (∀ q ∈ ps, ∃ r ∈ rows, q = f r) → Okay s (hdl ++ (A ++ tal)) ps E) ∧ decide (0 < (E.length : Int)) = !decide (A = B)
theorem dec_ne {p : Prop} [Decidable p] {A B : List Int} (h : p ↔ A ≠ B) : decide p = !decide (A = B) := by
  by_cases hp : p
  · have := h.mp hp
    simp [hp, this]
  · have : A = B := Classical.byContradiction fun q => hp (h.mpr q)
    simp [hp, this]
section
variable {W O gt ft : List (List Int)} {Ps : List (Int × Int)} {bl : List Bk} {old new fs es lead lead' ta tb : List Int} {S T : List Seg} {rows : List Rw} {s : Int} {hdl tal : List Int}
theorem tf_of {A B ga gb : List (List Int)} {bl : List Bk} {f f' : Rw → Int} (M : Mt A B bl ga gb) (hA : ∀ l ∈ A, Wd l ∧ l.length ≤ 3) (hB : ∀ l ∈ B, Wd l ∧ l.length ≤ 3) (few : A.length ≤ 40 ∧ B.length ≤ 40 ∧ bl.length ≤ 40) (J : Joined A old fs lead S ta) (J' : Joined B new es lead' T tb)
    (hr : ∀ r ∈ rows, ∃ one other wd letter, (one, other) ∈ prs 0 0 bl ∧ A[one.toNat]? = some wd ∧ 1 ≤ letter ∧ letter < (wd.length : Int) ∧ f r = s + (fs.getD one.toNat 0 + letter) ∧ f' r = s + (es.getD other.toNat 0 + letter))
    (hs : s = hdl.length + 1) (hh : hdl.length ≤ 9) (ht : tal.length ≤ 9) : TF s hdl old new tal rows f f' := by
  obtain ⟨t1, t2, t3, t4, t5⟩ := turn_law M hA hB few J J'
  refine ⟨t1, t2, t3, fun E hE => ?_⟩
  obtain ⟨k1, k2, k3, k4⟩ := t5 hdl tal s E hs hh ht hE
  refine ⟨k1, fun r hr1 => ?_, fun ps hps => k3 ps fun q hq => ?_, dec_ne k4⟩
  · obtain ⟨one, other, wd, letter, h1, h2, h3, h4, h5, h6⟩ := hr r hr1
    rw [h5, h6]
    exact k2 _ _ (t4 one other wd letter h1 h2 h3 h4)
  · obtain ⟨r, hr1, rfl⟩ := hps q hq
    obtain ⟨one, other, wd, letter, h1, h2, h3, h4, h5, h6⟩ := hr r hr1
    exact ⟨_, _, h5, t4 one other wd letter h1 h2 h3 h4⟩
theorem tf1 (R : WordsR W O Ps bl gt ft) (J : Joined W old fs lead S ta) (J' : Joined O new es lead' T tb) (hr : ∀ r ∈ rows, RowOk s W Ps fs es r) (hs : s = hdl.length + 1) (hh : hdl.length ≤ 9) (ht : tal.length ≤ 9) : TF s hdl old new tal rows (·.b) (·.a) := by
  have f3 := R.few3
  refine tf_of R.mt R.wW R.wO ⟨by (first | lia | omega), by (first | lia | omega), by (first | lia | omega)⟩ J J' (fun r h => ?_) hs hh ht
  obtain ⟨one, other, letter, wd, h1, h2, h3, h4, h5, h6⟩ := hr r h
  rw [R.p] at h1
  exact ⟨one, other, wd, letter, h1, h2, h3, h4, by rw [h6]; (first | lia | omega), by rw [h5]; (first | lia | omega)⟩
theorem tf2 (R : WordsR W O Ps bl gt ft) (J : Joined W old fs lead S ta) (J' : Joined O new es lead' T tb) (hr : ∀ r ∈ rows, RowOk s W Ps fs es r) (hs : s = hdl.length + 1) (hh : hdl.length ≤ 9) (ht : tal.length ≤ 9) : TF s hdl new old tal rows (·.a) (·.b) := by
  have f3 := R.few3
  have hl : (swb bl).length = bl.length := List.length_map ..
  refine tf_of R.tm R.wO R.wW ⟨by (first | lia | omega), by (first | lia | omega), by (first | lia | omega)⟩ J' J (fun r h => ?_) hs hh ht
  obtain ⟨one, other, letter, wd, h1, h2, h3, h4, h5, h6⟩ := hr r h
  obtain ⟨p1, p2, wd', p3, p4, p5, p6⟩ := R.pair h1
  rw [h2] at p3
  cases p3
  refine ⟨other, one, wd, letter, ?_, p4, h3, h4, by rw [h5]; (first | lia | omega), by rw [h6]; (first | lia | omega)⟩
  rw [swb_prs, List.mem_map]
  rw [R.p] at h1
  exact ⟨(one, other), h1, rfl⟩
end
theorem sl_mid' {hdl A tal : List Int} {s : Int} (hs : s = hdl.length + 1) : sl (hdl ++ (A ++ tal)) (s - 1) (s + A.length - 1) = A := sl_here rfl (by (first | lia | omega)) (by (first | lia | omega))
theorem pos_le : ∀ (S : List Seg) (k i : Nat) (q : Int × Int), (pos k S)[i]? = some q → (k : Int) ≤ q.1 ∧ q.2 ≤ k + (flat S).length
  | [], _, _, _, h => by simp [pos] at h
  | a :: r, k, 0, q, h => by
    simp only [pos, List.getElem?_cons_zero, Option.some.injEq] at h
    subst h
    rw [flat_cons]
    simp only [List.length_append]
    (first | lia | omega)
  | a :: r, k, i + 1, q, h => by
    rw [pos, List.getElem?_cons_succ] at h
    have := pos_le r _ i q h
    rw [flat_cons]
    simp only [List.length_append]
    (first | lia | omega)
theorem Joined.first {ws : List (List Int)} {txt fs lead tail : List Int} {S : List Seg} (J : Joined ws txt fs lead S tail) {i : Nat} {wd : List Int} (h : ws[i]? = some wd) : 0 ≤ fs.getD i 0 ∧ fs.getD i 0 + wd.length ≤ txt.length ∧ i < fs.length := by
  rw [← J.words, List.getElem?_map] at h
  cases hS : S[i]? with
  | none => rw [hS] at h; cases h
  | some x =>
    rw [hS] at h
    simp only [Option.map_some, Option.some.injEq] at h
    subst h
    obtain ⟨q, hq, hq2⟩ := pos_get S lead.length i x hS
    have h1 := pos_le S _ i q hq
    have hi := (List.getElem?_eq_some_iff.mp hq).1
    have e : fs.getD i 0 = q.1 := by rw [J.hfs, jfs_pos, List.getD_eq_getElem?_getD, List.getElem?_map, hq]; rfl
    have l1 : txt.length = lead.length + (flat S).length + tail.length := by rw [J.htxt]; simp only [List.length_append]
    have l2 : fs.length = (pos lead.length S).length := by rw [J.hfs, jfs_pos, List.length_map]
    rw [e]
    (first | lia | omega)
theorem Joined.flen {ws : List (List Int)} {txt fs lead tail : List Int} {S : List Seg} (J : Joined ws txt fs lead S tail) : fs.length = ws.length := by
  rw [J.hfs, jfs_pos, List.length_map, pos_length, ← J.words, List.length_map]
theorem permC {α : Type} (a b p q r s : α) (t u : List α) : (a :: b :: p :: q :: r :: s :: (t ++ u)).Perm ((p :: q :: r :: s :: t) ++ (a :: b :: u)) := List.perm_append_comm_assoc [a, b] (p :: q :: r :: s :: t) u
theorem if_bs {b : Bool} {T F : Prop} (h : F) : if (b != b) = true then T else F := by
  rw [bne_self_eq_false, if_neg Bool.false_ne_true]; exact h
theorem sl_all {l : List Int} {x y : Int} (hx : x = 0) (hy : y = l.length) : sl l x y = l := by
  subst hx hy
  unfold sl
  simp
/-- the text of a turn, and the place of a row in it -/
noncomputable def curT (old new : List Int) (i : Nat) : List Int := if i % 2 = 0 then old else new
noncomputable def curP (i : Nat) (r : Rw) : Int := if i % 2 = 0 then r.b else r.a
theorem permA {α : Type} (x a b c p q r s : α) (t : List α) : (x :: a :: b :: c :: p :: q :: r :: s :: t).Perm ([p, q, r, s, x] ++ (a :: b :: c :: t)) :=
  ((List.perm_append_comm (l₁ := [x, a, b, c]) (l₂ := [p, q, r, s])).append_right t)
theorem permB {α : Type} (p q r s x a b c : α) (t u : List α) : (p :: q :: r :: s :: x :: a :: b :: c :: (t ++ u)).Perm (a :: b :: c :: p :: q :: r :: s :: ((t ++ [x]) ++ u)) := by
  have h1 : (p :: q :: r :: s :: x :: a :: b :: c :: (t ++ u)).Perm (a :: b :: c :: p :: q :: r :: s :: (x :: (t ++ u))) := (List.perm_append_comm (l₁ := [p, q, r, s, x]) (l₂ := [a, b, c])).append_right (t ++ u)
  refine h1.trans ?_
  rw [List.append_assoc]
  exact (List.Perm.cons a (.cons b (.cons c (.cons p (.cons q (.cons r (.cons s List.perm_middle.symm)))))))
end Mine
namespace Mine
section
variable {prog : Program} {w : World} {A : Around} {E : Value → Shared → Prop} {s : Shared}
theorem int_noitem : typeLookup (.type "int") "__getitem__" = pure none := by rw [typeLookup_type, builtinLookup_eq_fast]; kernel_rfl
theorem getItem_int {n : Int} {t : Tok} {sa : Addr} {Q : Value → Shared → Prop} (hh : A.handled = none) (h : ∀ h' tk e, Heap.NewExc s.heap h' e "TypeError" → E (.ref e) { s with heap := h', toks := tk }) :
    wpAny (model prog w) A (getItem (.int n t) (.ref sa)) Q E s := by
  have hT : s.TypeIs (.int n t) "int" := rfl
  unfold getItem
  refine wpAny_holding ?_
  refine wpAny_bind ?_
  unfold sequenceKey
  refine wpAny_bind (wpAny_typeOf hT ?_)
  show wpAny _ _ (if (!seqItemTypes.contains "int") = true then pure (Value.ref sa) else _) _ _ s
  rw [if_pos (by decide)]
  refine wpAny_pure ?_
  refine wpAny_bind ?_
  unfold callSpecial?
  refine wpAny_bind (wpAny_specialOf hT int_noitem ?_)
  refine wpAny_pure ?_
  dsimp only
  refine wpAny_bind ?_
  unfold isType
  show wpAny _ _ (notAStandIn (.int n t) >>= fun _ => pure false) _ _ s
  refine wpAny_bind ?_
  refine wpAny_of_eq (a := ()) (by first | rfl | with_unfolding_all rfl) ?_
  refine wpAny_pure ?_
  rw [if_neg Bool.false_ne_true]
  refine wpAny_bind (wpAny_typeNameOf' hT (by decide) ?_)
  exact wpAny_raiseTypeError hh h (by first | size_fits | decide)
theorem sub_int {x : Str} {px p : Pos} {l u : Option Expr} {n : Int} {t : Tok} {sa : Addr} {Q : Value → Shared → Prop} (hh : A.handled = none) (h : ∀ h' tk e, Heap.NewExc s.heap h' e "TypeError" → E (.ref e) { s with heap := h', toks := tk }) :
    wpAny (model prog w) A (subscriptTail (.Name x px) (.Slice l u none p) (.int n t) (.ref sa)) Q E s := by
  have hT : s.TypeIs (.int n t) "int" := rfl
  unfold subscriptTail
  refine wpAny_bind ?_
  rw [getitemInPython_of_ne hT.not_modules]
  refine wpAny_bind (wpAny_specialOf hT int_noitem ?_)
  refine wpAny_pure ?_
  refine wpAny_bind ?_
  show wpAny _ _ (operate [Value.ref sa, Value.int n t] (getItem (.int n t) (.ref sa))) _ _ s
  unfold operate
  exact wpAny_bind (wpAny_holding (getItem_int hh h))
end
theorem leave_cW {M : Model} {A : Around} {c : ClaimW} {cl : Str → Option Addr} {args : List WData} {s₁ s' : Shared} {name : Str} {scope : Scope} {L a e : Addr} {cd : Value} {m : Str → Option Value} {h h₀ : Heap} {cls : String}
    (hfr : A.frames = some []) (F : Fr s₁.heap L h m) (hx : Heap.NewExc h s'.heap e cls) (hg : s'.gens = #[]) (hr : c.raises args (.builtin cls) = true) (hos : s'.os = s₁.os := by rfl) (hkf : scope.kind = .function := by rfl) :
    wpAny M (A.deeper (envOfC name scope L a cd)) (leaving (envOfC name scope L a cd) (.ref e)) (fun _ s'' => GoodW c cl (ExcName.means h₀) args s₁ (.error (.ref e)) s'') (fun e' s'' => GoodW c cl (ExcName.means h₀) args s₁ (.error e') s'') s' :=
  wpAny_mono (leave_newC (r := raiser (.builtin cls)) (args := []) hfr F hx hg (raiser_raises _) hos hkf) (fun _ _ x => goodW_of_raiser hr (Good2.to3 h₀ x)) (fun _ _ x => goodW_of_raiser hr (Good2.to3 h₀ x))
end Mine
namespace Mine
theorem A0.tw17629961680498509635 : True := trivial
theorem A0.tw13512517751955400841 : True := trivial
theorem A0.tw14398990613538775084 : True := trivial
theorem A0.tw7876972113259635358 : True := trivial
theorem A0.tw57798643499450829 : True := trivial
theorem A0.tw15997902266462106835 : True := trivial
theorem A0.tw11969684767168186548 : True := trivial
theorem A0.tw8610056142650413386 : True := trivial
theorem A0.tw3060887035224854581 : True := trivial
theorem A0.tw1993067207490010071 : True := trivial
theorem A0.tw8424654316256523895 : True := trivial
theorem A0.tw15156369550531255366 : True := trivial
theorem A0.tw602741490716960109 : True := trivial
theorem A0.tw15917977148788803199 : True := trivial
theorem A0.tw9179682729507710416 : True := trivial
theorem A0.tw9195576467704623077 : True := trivial
theorem A0.tw11398763304172341924 : True := trivial
theorem A0.tw6106447166758934452 : True := trivial
theorem A0.tw12651746632690689771 : True := trivial
theorem A0.tw3928748923467552756 : True := trivial
theorem A0.tw5260055461688883449 : True := trivial
theorem A0.tw17530056718611539515 : True := trivial
theorem A0.tw13262624752421961877 : True := trivial
theorem A0.tw185665768292280404 : True := trivial
theorem A0.tw17040679241973258853 : True := trivial
theorem A0.tw5360866793707594102 : True := trivial
theorem A0.tw309166764082205792 : True := trivial
theorem A0.tw13659304248658513174 : True := trivial
theorem A0.tw1814821689541902481 : True := trivial
theorem A0.tw14645814426342301343 : True := trivial
theorem A0.tw3452240422523500266 : True := trivial
theorem A0.tw12917963852892575681 : True := trivial
theorem A0.tw10944542911040847820 : True := trivial
theorem A0.tw3860518480705234817 : True := trivial
theorem A0.tw1127810656324929627 : True := trivial
theorem A0.tw15734343248680811443 : True := trivial
theorem A0.tw10120090282357513015 : True := trivial
theorem A0.tw4071444539270266237 : True := trivial
theorem A0.tw8248258112404969564 : True := trivial
theorem A0.tw6626427978889710210 : True := trivial
theorem A0.tw1361014249137446555 : True := trivial
theorem A0.tw1503596631171320114 : True := trivial
theorem A0.tw15826860562675100016 : True := trivial
theorem A0.tw14916977110794129267 : True := trivial
theorem A0.tw4779619979651438041 : True := trivial
theorem A0.tw11269788538313960449 : True := trivial
theorem A0.tw16058407308383975144 : True := trivial
theorem A0.tw4475047395961455286 : True := trivial
theorem A0.tw12926405463419513189 : True := trivial
theorem A0.tw3013486822403918334 : True := trivial
theorem A0.tw11347868109615616092 : True := trivial
theorem A0.tw18119321834963294015 : True := trivial
theorem A0.tw7180698176575960749 : True := trivial
theorem A0.tw12855780283769129020 : True := trivial
theorem A0.tw15115962417936341383 : True := trivial
theorem A0.tw6486820628448913717 : True := trivial
theorem A0.tw3108976696991449750 : True := trivial
theorem A0.tw16962273126050633659 : True := trivial
theorem A0.tw13923418111196720621 : True := trivial
theorem A0.tw8230099027849679293 : True := trivial
theorem A0.tw14868163589389211868 : True := trivial
theorem A0.tw15584099670060904066 : True := trivial
theorem A0.tw12993699778823494614 : True := trivial
theorem A0.tw7788676586379342904 : True := trivial
theorem A0.tw10346117811171390201 : True := trivial
theorem A0.tw6879775801413189055 : True := trivial
theorem A0.tw10839562819992507902 : True := trivial
theorem A0.tw6493736764346630268 : True := trivial
theorem A0.tw18412257552340934356 : True := trivial
theorem A0.tw12454255620877152255 : True := trivial
theorem A0.tw16073789181175312457 : True := trivial
theorem A0.tw16340567598261847510 : True := trivial
theorem A0.tw15306602267132184784 : True := trivial
theorem A0.tw12206775046663993976 : True := trivial
theorem A0.tw11571967924192842067 : True := trivial
theorem A0.tw14154639852620840285 : True := trivial
theorem A0.tw8058306935776456029 : True := trivial
theorem A0.tw4529295963514086218 : True := trivial
theorem A0.tw11858209153556089327 : True := trivial
theorem A0.tw12612621021124119294 : True := trivial
theorem A0.tw11930004144548363376 : True := trivial
theorem A0.tw222309658604615535 : True := trivial
theorem A0.tw16026378191237847568 : True := trivial
theorem A0.tw3889456105325731275 : True := trivial
theorem A0.tw5387603603979709105 : True := trivial
theorem A0.tw3047598405461875646 : True := trivial
theorem A0.tw1730057285293312765 : True := trivial
theorem A0.tw4799614226123394505 : True := trivial
theorem A0.tw13026689642148231965 : True := trivial
theorem A0.tw14082123612211728425 : True := trivial
theorem A0.tw14507191280955554120 : True := trivial
theorem A0.tw14677741001667168002 : True := trivial
theorem A0.tw1527373309069186889 : True := trivial
theorem A0.tw9056414616499872071 : True := trivial
theorem A0.tw424500007163042698 : True := trivial
theorem A0.tw9162916959664063718 : True := trivial
theorem A0.tw11940574360809557441 : True := trivial
theorem A0.tw16164181767286687243 : True := trivial
theorem A0.tw7529224526244738565 : True := trivial
theorem A0.tw9335241825299700986 : True := trivial
theorem A0.tw7999831237517888954 : True := trivial
theorem A0.tw16619445145026564293 : True := trivial
theorem A0.tw10992158907360632664 : True := trivial
theorem A0.tw10167129149068299793 : True := trivial
theorem A0.tw5936984287570975301 : True := trivial
theorem A0.tw16021409128932009053 : True := trivial
theorem A0.tw18371929102783340476 : True := trivial
theorem A0.tw6748090652015856950 : True := trivial
theorem A0.tw4726839330900264506 : True := trivial
theorem A0.tw11633327478158951984 : True := trivial
theorem A0.tw14643288003702226001 : True := trivial
theorem A0.tw8649750359527570650 : True := trivial
theorem A0.tw12671595686511751338 : True := trivial
theorem A0.tw1940216781742914274 : True := trivial
theorem A0.tw3857830656926490732 : True := trivial
theorem A0.tw11344412530121208910 : True := trivial
theorem A0.tw14448691546953250523 : True := trivial
theorem A0.tw18352009996638727465 : True := trivial
theorem A0.tw10650171798578439446 : True := trivial
theorem A0.tw12517873320268494176 : True := trivial
theorem A0.tw7679354562299336990 : True := trivial
theorem A0.tw4698251690009829813 : True := trivial
theorem A0.tw1536521323500823609 : True := trivial
theorem A0.tw12964979346590528628 : True := trivial
theorem A0.tw17170533671782430463 : True := trivial
theorem A0.tw7018678128973321237 : True := trivial
theorem A0.tw12530516441536741642 : True := trivial
theorem A0.tw9214325106010628156 : True := trivial
theorem A0.tw10740248847627904048 : True := trivial
theorem A0.tw85290712718655268 : True := trivial
theorem A0.tw11054136650092189489 : True := trivial
theorem A0.tw4462681027460741240 : True := trivial
theorem A0.tw2812510134844759838 : True := trivial
theorem A0.tw14267117076284328724 : True := trivial
theorem A0.tw4703432707989469415 : True := trivial
theorem A0.tw6709661247749237706 : True := trivial
theorem A0.tw4781436630838182060 : True := trivial
theorem A0.tw8074562953894176110 : True := trivial
theorem A0.tw18007483409758174396 : True := trivial
theorem A0.tw8517079096469675463 : True := trivial
theorem A0.tw1052150056218597191 : True := trivial
theorem A0.tw54217869103223224 : True := trivial
theorem A0.tw10824062792020386464 : True := trivial
theorem A0.tw9511135673210142223 : True := trivial
theorem A0.tw8702588846778901755 : True := trivial
theorem A0.tw6733350855296514239 : True := trivial
theorem A0.tw2242253831204579677 : True := trivial
theorem A0.tw8511063783777521760 : True := trivial
theorem A0.tw332963680840204914 : True := trivial
theorem A0.tw7198606541888142987 : True := trivial
theorem A0.tw1142365553030488626 : True := trivial
theorem A0.tw12608585939871613491 : True := trivial
theorem A0.tw10676723902309237392 : True := trivial
theorem A0.tw523407611744478437 : True := trivial
theorem A0.tw3491455106351945380 : True := trivial
theorem A0.tw9552212447317431188 : True := trivial
theorem A0.tw15825996730575351802 : True := trivial
theorem A0.tw13190661867849123098 : True := trivial
theorem A0.tw17924567241511374227 : True := trivial
theorem A0.tw11071021857709123918 : True := trivial
theorem A0.tw15542673881563725923 : True := trivial
theorem A0.tw17358386528895276677 : True := trivial
theorem A0.tw7394078284438976922 : True := trivial
theorem A0.tw5502327101063019128 : True := trivial
theorem A0.tw18173659975626940300 : True := trivial
theorem A0.tw9296905092922949326 : True := trivial
theorem A0.tw7977247617949000896 : True := trivial
theorem A0.tw8105372561249706024 : True := trivial
theorem A0.tw5233410353009321276 : True := trivial
theorem A0.tw18431450286835146477 : True := trivial
theorem A0.tw4517854931681106350 : True := trivial
theorem A0.tw8648076803026949673 : True := trivial
theorem A0.tw3644165726906994165 : True := trivial
theorem A0.tw11744364000186832121 : True := trivial
theorem A0.tw9855628101641830036 : True := trivial
theorem A0.tw17949899966510531096 : True := trivial
theorem A0.tw5903861141519808572 : True := trivial
theorem A0.tw5029503984411738537 : True := trivial
theorem A0.tw7653366893022057299 : True := trivial
theorem A0.tw2261890309405023135 : True := trivial
theorem A0.tw4214929881550787495 : True := trivial
theorem A0.tw9943311117476044491 : True := trivial
theorem A0.tw4656852629936578176 : True := trivial
theorem A0.tw4664881386734121176 : True := trivial
theorem A0.tw5977761233624302190 : True := trivial
theorem A0.tw17925884137083502794 : True := trivial
theorem A0.tw9339190657211091513 : True := trivial
theorem A0.tw135255113775402385 : True := trivial
theorem A0.tw11196347358928513230 : True := trivial
theorem A0.tw1326577682642715340 : True := trivial
theorem A0.tw5863440227650571172 : True := trivial
theorem A0.tw219141695661598479 : True := trivial
theorem A0.tw18002935623964107262 : True := trivial
theorem A0.tw12348402169497142405 : True := trivial
theorem A0.tw16560813815516071947 : True := trivial
theorem A0.tw731968914121968452 : True := trivial
theorem A0.tw4639811051721001360 : True := trivial
theorem A0.tw9602152303424332804 : True := trivial
theorem A0.tw9403903469062109699 : True := trivial
theorem A0.tw16592046423241543091 : True := trivial
theorem A0.tw2906714332372625040 : True := trivial
theorem A0.tw977909520232898741 : True := trivial
theorem A0.tw506987775386624342 : True := trivial
theorem A0.tw15169342166597511800 : True := trivial
theorem A0.tw14733208934428809987 : True := trivial
theorem A0.tw1161886569499502462 : True := trivial
theorem A0.tw12812316840053175121 : True := trivial
theorem A0.tw3172396394408793469 : True := trivial
theorem A0.tw4922840622975637878 : True := trivial
theorem A0.tw16907080453324747064 : True := trivial
theorem A0.tw8723361609464386131 : True := trivial
theorem A0.tw15123689186518647959 : True := trivial
theorem A0.tw2930257729117774826 : True := trivial
theorem A0.tw127837254291214756 : True := trivial
theorem A0.tw4589424138404365241 : True := trivial
theorem A0.tw14701922496666442843 : True := trivial
theorem A0.tw13960332041675181536 : True := trivial
theorem A0.tw17279047685338845914 : True := trivial
theorem A0.tw13604165469974172972 : True := trivial
theorem A0.tw9969662319208722962 : True := trivial
theorem A0.tw13620934612064162309 : True := trivial
theorem A0.tw12585688929520346783 : True := trivial
theorem A0.tw12616744820194551353 : True := trivial
theorem A0.tw10177888962081445193 : True := trivial
theorem A0.tw1613398189297935352 : True := trivial
theorem A0.tw11236570695595648700 : True := trivial
theorem A0.tw8896370950690480180 : True := trivial
theorem A0.tw17969827452526314516 : True := trivial
theorem A0.tw6958517523956289792 : True := trivial
theorem A0.tw14209353371720534358 : True := trivial
theorem A0.tw15287642359751246016 : True := trivial
theorem A0.tw10788252499659921608 : True := trivial
theorem A0.tw12326829280870542739 : True := trivial
theorem A0.tw5316842099913721468 : True := trivial
theorem A0.tw3029859825898431161 : True := trivial
theorem A0.tw4998519793812060252 : True := trivial
theorem A0.tw13801518692281732433 : True := trivial
theorem A0.tw1231336595014227188 : True := trivial
theorem A0.tw1082682118916901114 : True := trivial
theorem A0.tw18146295719480037880 : True := trivial
theorem A0.tw9214772425191856329 : True := trivial
theorem A0.tw15638347421233950376 : True := trivial
theorem A0.tw12188888129710511509 : True := trivial
theorem A0.tw2177524388504441148 : True := trivial
theorem A0.tw17864379559576750148 : True := trivial
theorem A0.tw8217451951819761920 : True := trivial
theorem A0.tw13450229149075090949 : True := trivial
theorem A0.tw10979929521609245935 : True := trivial
theorem A0.tw8988750411835574656 : True := trivial
theorem A0.tw3087358893457758827 : True := trivial
theorem A0.tw6365182798732600168 : True := trivial
theorem A0.tw4747076974709369883 : True := trivial
theorem A0.tw8732090124487332321 : True := trivial
theorem A0.tw9118457775773468532 : True := trivial
theorem A0.tw11574079277597425572 : True := trivial
theorem A0.tw11970151268364066997 : True := trivial
theorem A0.tw9728835965024738706 : True := trivial
theorem A0.tw5595691809412268072 : True := trivial
theorem A0.tw5107563544755963451 : True := trivial
theorem A0.tw13987622529496488322 : True := trivial
theorem A0.tw3572839046686439083 : True := trivial
theorem A0.tw5699065190047688050 : True := trivial
theorem A0.tw10310917722006725008 : True := trivial
theorem A0.tw5905014051683737919 : True := trivial
theorem A0.tw8435438513220018783 : True := trivial
theorem A0.tw391282004819900741 : True := trivial
theorem A0.tw8339323815405161425 : True := trivial
theorem A0.tw1494853720574078333 : True := trivial
theorem A0.tw688918104227366777 : True := trivial
theorem A0.tw5249516416655876938 : True := trivial
theorem A0.tw17159177353228021660 : True := trivial
theorem A0.tw17209568927777948288 : True := trivial
theorem A0.tw8788410494845856657 : True := trivial
theorem A0.tw7638505583203034659 : True := trivial
theorem A0.tw13457897884247861460 : True := trivial
theorem A0.tw804376389546155745 : True := trivial
theorem A0.tw14343704962659204796 : True := trivial
theorem A0.tw15085227735458292079 : True := trivial
theorem A0.tw7330839461065781190 : True := trivial
theorem A0.tw2990265189255276235 : True := trivial
theorem A0.tw7340055580471963993 : True := trivial
theorem A0.tw10539628894952315371 : True := trivial
theorem A0.tw15255661019861063908 : True := trivial
theorem A0.tw9877302421362991493 : True := trivial
theorem A0.tw401914974840952056 : True := trivial
theorem A0.tw11239969319932149777 : True := trivial
theorem A0.tw719016387230775609 : True := trivial
theorem A0.tw18355701569201052230 : True := trivial
theorem A0.tw10125934846297003662 : True := trivial
theorem A0.tw14197669999173120584 : True := trivial
theorem A0.tw12432625553251631855 : True := trivial
theorem A0.tw6350024866415762369 : True := trivial
theorem A0.tw11225148707309057318 : True := trivial
theorem A0.tw10835287066392967836 : True := trivial
theorem A0.tw5674030071706602583 : True := trivial
theorem A0.tw15491640452003194657 : True := trivial
theorem A0.tw12503573261380361197 : True := trivial
theorem A0.tw4335373718730769734 : True := trivial
theorem A0.tw13848248752748088537 : True := trivial
theorem A0.tw17381926044401055249 : True := trivial
theorem A0.tw15652403941865303364 : True := trivial
theorem A0.tw13843186298004973004 : True := trivial
theorem A0.tw12573288763370157096 : True := trivial
theorem A0.tw6577620690114361261 : True := trivial
theorem A0.tw5540325105202719109 : True := trivial
theorem A0.tw1339563700923532275 : True := trivial
theorem A0.tw4004560642341784443 : True := trivial
theorem A0.tw11143893664600701871 : True := trivial
theorem A0.tw9077430772632035788 : True := trivial
theorem A0.tw5584016945311742935 : True := trivial
theorem A0.tw10623532209838150205 : True := trivial
theorem A0.tw9721715015494346217 : True := trivial
theorem A0.tw706899987133462183 : True := trivial
theorem A0.tw11474180390138246792 : True := trivial
theorem A0.tw9428241380623536095 : True := trivial
theorem A0.tw4638017365439337362 : True := trivial
theorem A0.tw620819871106192854 : True := trivial
theorem A0.tw11271381005688916962 : True := trivial
theorem A0.tw16949645748792439695 : True := trivial
theorem A0.tw4998604442779930838 : True := trivial
theorem A0.tw9587890125993059779 : True := trivial
theorem A0.tw10100666587614051494 : True := trivial
theorem A0.tw9583612811276431727 : True := trivial
theorem A0.tw219796102145915937 : True := trivial
theorem A0.tw10351996920105339029 : True := trivial
theorem A0.tw1110787465705184392 : True := trivial
theorem A0.tw13978731528375521220 : True := trivial
theorem A0.tw11299631860749930445 : True := trivial
theorem A0.tw11588240854594123321 : True := trivial
theorem A0.tw16645731688592725150 : True := trivial
theorem A0.tw15562220968958379191 : True := trivial
theorem A0.tw7247747317496359905 : True := trivial
theorem A0.tw17792158648890087623 : True := trivial
theorem A0.tw3424041239023098374 : True := trivial
theorem A0.tw11831276854257852712 : True := trivial
theorem A0.tw4566509927072345109 : True := trivial
theorem A0.tw15425477004070939881 : True := trivial
theorem A0.tw8162396732116160298 : True := trivial
theorem A0.tw13845393837904671291 : True := trivial
theorem A0.tw37006030853811508 : True := trivial
theorem A0.tw6044829714979068948 : True := trivial
theorem A0.tw11761728225284702989 : True := trivial
theorem A0.tw9649455747006026223 : True := trivial
theorem A0.tw14367813751976030618 : True := trivial
theorem A0.tw3824776119204522151 : True := trivial
theorem A0.tw15792894927397450612 : True := trivial
theorem A0.tw12449738150626658556 : True := trivial
theorem A0.tw3402315470354011388 : True := trivial
theorem A0.tw4463582105965704763 : True := trivial
theorem A0.tw13657045078802662082 : True := trivial
theorem A0.tw10870168394375694003 : True := trivial
theorem A0.tw13387755717345555699 : True := trivial
theorem A0.tw12337840902147023762 : True := trivial
theorem A0.tw11136730224053651241 : True := trivial
theorem A0.tw13619133446986917160 : True := trivial
theorem A0.tw11627823749904424644 : True := trivial
theorem A0.tw15815029101587487763 : True := trivial
theorem A0.tw13322914443577265202 : True := trivial
theorem A0.tw1003104425505340146 : True := trivial
theorem A0.tw4099502125526885458 : True := trivial
theorem A0.tw6877122547996883101 : True := trivial
theorem A0.tw4537167094293265696 : True := trivial
theorem A0.tw10672974335372678066 : True := trivial
theorem A0.tw5494486295864824851 : True := trivial
theorem A0.tw10932157630202989201 : True := trivial
theorem A0.tw1576917526553898355 : True := trivial
theorem A0.tw3474584232095552116 : True := trivial
theorem A0.tw1990566958921895797 : True := trivial
theorem A0.tw13585137867407093558 : True := trivial
theorem A0.tw4788508716833402689 : True := trivial
theorem A0.tw10318844002124461189 : True := trivial
theorem A0.tw9193514895501069108 : True := trivial
theorem A0.tw931414436956722395 : True := trivial
theorem A0.tw6073289180764588160 : True := trivial
theorem A0.tw4386167038591896380 : True := trivial
theorem A0.tw16402111621980711221 : True := trivial
theorem A0.tw9332025801931960015 : True := trivial
theorem A0.tw17628353561773112635 : True := trivial
theorem A0.tw4768498745542947988 : True := trivial
theorem A0.tw7815836523194972838 : True := trivial
theorem A0.tw7778721078366626355 : True := trivial
theorem A0.tw9511755604970081689 : True := trivial
theorem A0.tw11670119430360937268 : True := trivial
theorem A0.tw6364617784021501616 : True := trivial
theorem A0.tw14884692772778101155 : True := trivial
theorem A0.tw15740341971862026260 : True := trivial
theorem A0.tw4753320074852522715 : True := trivial
theorem A0.tw17360047107718963855 : True := trivial
theorem A0.tw13203007566150887441 : True := trivial
theorem A0.tw2427390713309507097 : True := trivial
theorem A0.tw520328410962102809 : True := trivial
theorem A0.tw7685090681105069549 : True := trivial
theorem A0.tw16854699978522573794 : True := trivial
theorem A0.tw926629030950333106 : True := trivial
theorem A0.tw977814862961627758 : True := trivial
theorem A0.tw15859111168936429729 : True := trivial
theorem A0.tw15421369695126730436 : True := trivial
theorem A0.tw1054956671219994138 : True := trivial
theorem A0.tw3179692612952430798 : True := trivial
theorem A0.tw17154192559460092244 : True := trivial
theorem A0.tw13694218213276089698 : True := trivial
theorem A0.tw10367071626119207713 : True := trivial
theorem A0.tw9071711312910771268 : True := trivial
theorem A0.tw6757419041661487086 : True := trivial
theorem A0.tw12028349953177580895 : True := trivial
theorem A0.tw12867419684052213390 : True := trivial
theorem A0.tw15114523989745785299 : True := trivial
theorem A0.tw13525145632896949609 : True := trivial
theorem A0.tw6445421169544825381 : True := trivial
theorem A0.tw15217553541312727307 : True := trivial
theorem A0.tw13838884738383296572 : True := trivial
theorem A0.tw5106862900364595112 : True := trivial
theorem A0.tw4725817733373753747 : True := trivial
theorem A0.tw14149722195510288992 : True := trivial
theorem A0.tw8351315480064747052 : True := trivial
theorem A0.tw13911333158654346234 : True := trivial
theorem A0.tw5256219242719541818 : True := trivial
theorem A0.tw10381203254676078289 : True := trivial
theorem A0.tw12469085960084084691 : True := trivial
theorem A0.tw8984998450864453121 : True := trivial
theorem A0.tw4364351496467744474 : True := trivial
theorem A0.tw2764887766826727794 : True := trivial
theorem A0.tw3113769551934276450 : True := trivial
theorem A0.tw17151992742639001020 : True := trivial
theorem A0.tw12414294387615346541 : True := trivial
theorem A0.tw10810855544667889170 : True := trivial
theorem A0.tw2358743180710031824 : True := trivial
theorem A0.tw5782528918405701554 : True := trivial
theorem A0.tw14287455048926316597 : True := trivial
theorem A0.tw6206826166722999191 : True := trivial
theorem A0.tw18320340656918326241 : True := trivial
theorem A0.tw7990620494212237799 : True := trivial
theorem A0.tw18355850836010230065 : True := trivial
theorem A0.tw11743413482895459443 : True := trivial
theorem A0.tw4704305383082485144 : True := trivial
theorem A0.tw4844765766570799216 : True := trivial
theorem A0.tw10533082672554444626 : True := trivial
theorem A0.tw8514540118855930243 : True := trivial
theorem A0.tw15903671742890963301 : True := trivial
theorem A0.tw17440217575688453254 : True := trivial
theorem A0.tw4527100623571673316 : True := trivial
theorem A0.tw5849291455491425833 : True := trivial
theorem A0.tw18424537258082329626 : True := trivial
theorem A0.tw11373540813382541729 : True := trivial
theorem A0.tw16371594646916888878 : True := trivial
theorem A0.tw1359823065240581059 : True := trivial
theorem A0.tw4109187035873868314 : True := trivial
theorem A0.tw14092026868907306257 : True := trivial
theorem A0.tw5033922317164758611 : True := trivial
theorem A0.tw810724977812171156 : True := trivial
theorem A0.tw14816212403927508245 : True := trivial
theorem A0.tw8249689869834721899 : True := trivial
theorem A0.tw15793065591659157044 : True := trivial
theorem A0.tw14072294311176782773 : True := trivial
theorem A0.tw16438105022645234418 : True := trivial
theorem A0.tw18211420901654881035 : True := trivial
theorem A0.tw12846128244037733704 : True := trivial
theorem A0.tw8636441081123936834 : True := trivial
theorem A0.tw13263173212737549747 : True := trivial
theorem A0.tw16204276104904845993 : True := trivial
theorem A0.tw12136258460307028750 : True := trivial
theorem A0.tw94654466694158320 : True := trivial
theorem A0.tw3517559124461860299 : True := trivial
theorem A0.tw12418101242877731839 : True := trivial
theorem A0.tw6345651494945386772 : True := trivial
theorem A0.tw14364019894103611532 : True := trivial
theorem A0.tw13486668115675861197 : True := trivial
theorem A0.tw14626991082543256755 : True := trivial
theorem A0.tw8324547121412124534 : True := trivial
theorem A0.tw286557195763814168 : True := trivial
theorem A0.tw11410748247905317319 : True := trivial
theorem A0.tw17367264472429942421 : True := trivial
theorem A0.tw777694526799957025 : True := trivial
theorem A0.tw10913726551980352118 : True := trivial
theorem A0.tw5896852585592683328 : True := trivial
theorem A0.tw459915033614326894 : True := trivial
theorem A0.tw967207104082487032 : True := trivial
theorem A0.tw8577332524786246954 : True := trivial
theorem A0.tw6844044215146175826 : True := trivial
theorem A0.tw3539180105016684375 : True := trivial
theorem A0.tw17900028954949106948 : True := trivial
theorem A0.tw8358589056827152042 : True := trivial
theorem A0.tw5862781874028477342 : True := trivial
theorem A0.tw12389807151039890281 : True := trivial
theorem A0.tw14235998709986405878 : True := trivial
theorem A0.tw6860993909368627985 : True := trivial
theorem A0.tw2290174236572249768 : True := trivial
theorem A0.tw12943414239152681580 : True := trivial
theorem A0.tw745265886843309430 : True := trivial
theorem A0.tw5972535122204045006 : True := trivial
theorem A0.tw9249656683969686894 : True := trivial
theorem A0.tw7090919512884156785 : True := trivial
theorem A0.tw3047048165971099378 : True := trivial
theorem A0.tw7768958605455474762 : True := trivial
theorem A0.tw7244735825304516839 : True := trivial
theorem A0.tw5350688137117909246 : True := trivial
theorem A0.tw5266296512530882563 : True := trivial
theorem A0.tw8545402925832959196 : True := trivial
theorem A0.tw527942211352929776 : True := trivial
theorem A0.tw12604188480684290536 : True := trivial
theorem A0.tw3506621243196126174 : True := trivial
theorem A0.tw179059891564316873 : True := trivial
theorem A0.tw10658158854692021268 : True := trivial
theorem A0.tw18150938127252725066 : True := trivial
theorem A0.tw15230385207652679008 : True := trivial
theorem A0.tw17954172726454309453 : True := trivial
theorem A0.tw893083366432462477 : True := trivial
theorem A0.tw16656007087347819419 : True := trivial
theorem A0.tw3967764876322044672 : True := trivial
theorem A0.tw5500049410351372732 : True := trivial
theorem A0.tw8256754584600349840 : True := trivial
theorem A0.tw6528192881658853965 : True := trivial
theorem A0.tw17525741102741767670 : True := trivial
theorem A0.tw12803682251836715693 : True := trivial
theorem A0.tw3835422430857715005 : True := trivial
theorem A0.tw18163650443671053586 : True := trivial
theorem A0.tw1992107018022859880 : True := trivial
theorem A0.tw7209232008201330048 : True := trivial
theorem A0.tw3714071737915621283 : True := trivial
theorem A0.tw1036230394146803897 : True := trivial
theorem A0.tw17643601244473494409 : True := trivial
theorem A0.tw119866554867183551 : True := trivial
theorem A0.tw14452614013214730854 : True := trivial
theorem A0.tw14145750250701807503 : True := trivial
theorem A0.tw7058709321512826856 : True := trivial
theorem A0.tw735539358876961225 : True := trivial
theorem A0.tw8586223086930448622 : True := trivial
theorem A0.tw4105037914422284383 : True := trivial
theorem A0.tw480613072964443607 : True := trivial
theorem A0.tw14797917832004248273 : True := trivial
theorem A0.tw514857807179627691 : True := trivial
theorem A0.tw14106968597200990819 : True := trivial
theorem A0.tw14582800523269478292 : True := trivial
theorem A0.tw8978818736196733046 : True := trivial
theorem A0.tw1217184613476526177 : True := trivial
theorem A0.tw9515687706896877430 : True := trivial
theorem A0.tw17470588747884268742 : True := trivial
theorem A0.tw2734292353105286189 : True := trivial
theorem A0.tw991167385105402546 : True := trivial
theorem A0.tw13702058023188541977 : True := trivial
theorem A0.tw6022698173430380233 : True := trivial
theorem A0.tw18403468927397081286 : True := trivial
theorem A0.tw4415038228352727543 : True := trivial
theorem A0.tw12511356021661691952 : True := trivial
theorem A0.tw16862478903334516395 : True := trivial
theorem A0.tw10001428187069465300 : True := trivial
theorem A0.tw479034037500459200 : True := trivial
theorem A0.tw12368232131091512058 : True := trivial
theorem A0.tw5944673379119621830 : True := trivial
theorem A0.tw16046262691720885495 : True := trivial
theorem A0.tw13647969221076043857 : True := trivial
theorem A0.tw2107893129942513710 : True := trivial
theorem A0.tw7639829926993762397 : True := trivial
theorem A0.tw17096061609251531046 : True := trivial
theorem A0.tw15362243991888803682 : True := trivial
theorem A0.tw9497523215740787391 : True := trivial
theorem A0.tw9843896370901672699 : True := trivial
theorem A0.tw7369257326408709377 : True := trivial
theorem A0.tw2749304760844286304 : True := trivial
theorem A0.tw6087659380106711127 : True := trivial
theorem A0.tw4875263970851096190 : True := trivial
theorem A0.tw4841615361722126613 : True := trivial
theorem A0.tw13271663805241080257 : True := trivial
theorem A0.tw14209625420236574688 : True := trivial
theorem A0.tw14584167932631724291 : True := trivial
theorem A0.tw3675082776730919345 : True := trivial
theorem A0.tw11287650685234693704 : True := trivial
theorem A0.tw7645395373975189849 : True := trivial
theorem A0.tw10615230024258048306 : True := trivial
theorem A0.tw10355103798673173260 : True := trivial
theorem A0.tw11551335968380121196 : True := trivial
theorem A0.tw6385730796342632312 : True := trivial
theorem A0.tw14743920978861678711 : True := trivial
theorem A0.tw15205211315253305713 : True := trivial
theorem A0.tw12009955322265721646 : True := trivial
theorem A0.tw4000186997757750873 : True := trivial
theorem A0.tw16676664626721631494 : True := trivial
theorem A0.tw11657315461734982172 : True := trivial
theorem A0.tw11314813172648451724 : True := trivial
theorem A0.tw11028483205240335317 : True := trivial
theorem A0.tw7794501703906590395 : True := trivial
theorem A0.tw5413831349772752264 : True := trivial
theorem A0.tw8510531047958833413 : True := trivial
theorem A0.tw7629709710310398518 : True := trivial
theorem A0.tw10335359331094871342 : True := trivial
theorem A0.tw6850159205173853848 : True := trivial
theorem A0.tw17212985171311674826 : True := trivial
theorem A0.tw7392239922388477162 : True := trivial
theorem A0.tw14711946076494158330 : True := trivial
theorem A0.tw5149904113733438091 : True := trivial
theorem A0.tw13386740219333804164 : True := trivial
theorem A0.tw12562741035119052187 : True := trivial
theorem A0.tw9881097634252833102 : True := trivial
theorem A0.tw12702248324012107155 : True := trivial
theorem A0.tw4983602885478097986 : True := trivial
/-- a row of my own about the same text: law of an int raises TypeError. It is proved for the sake of the head that its proof writes out. -/
abbrev r0 : OpenRow := { PySem.Challenge.rw_up0005_01.row with args := [.int], pre := .lit (.bool true), post := .lit (.bool true), raises := [(.builtin "TypeError", .lit (.bool true))] }
local macro_rules | `(tactic| walk_at "subscriptTail Name Slice int ref") => `(tactic| (k_here; with_unfolding_all refine' sub_int ?k1 ?_; (case k1 => rfl); intro _ _ _ hNx; dsimp only at hNx))
set_option Elab.async true in
theorem A0 : r0.Holds := by
  w_on
  k_head
  (case hw => exact ⟨[.int 3], by decide +kernel, by decide +kernel⟩)
  k_go0; (all_goals try k_fold); k_steps
  rename_i F oc od N0 X0 h9 tk9 e9 hN9
  refine leave_cW rfl (Fr.push (by assumption) _) hN9 (by assumption) ?_
  first | wrow_raised | decide | rfl
theorem fillAll : PySem.Challenge.rw_up0005_01.name = PySem.Challenge.rw_up0005_01.name ∧ Mine.A0.heap_1_1 = Mine.A0.heap_1_1 := by k_fill; exact ⟨rfl, rfl⟩
abbrev PG : Program := PySem.Challenge.rw_up0005_01.row.prog
theorem g_need_writable {w : World} : GlobIs (A0.heap_1_1 w.params) "need_writable" (.ref 48) := .inl (by k_is)
theorem g_need_room {w : World} : GlobIs (A0.heap_1_1 w.params) "need_room" (.ref 55) := .inl (by k_is)
theorem g_reached {w : World} : GlobIs (A0.heap_1_1 w.params) "reached" (.ref 62) := .inl (by k_is)
theorem g_tell_ahead {w : World} : GlobIs (A0.heap_1_1 w.params) "tell_ahead" (.ref 69) := .inl (by k_is)
theorem g_tell_behind {w : World} : GlobIs (A0.heap_1_1 w.params) "tell_behind" (.ref 76) := .inl (by k_is)
theorem g_text_out {w : World} : GlobIs (A0.heap_1_1 w.params) "text_out" (.ref 83) := .inl (by k_is)
theorem g_text_in {w : World} : GlobIs (A0.heap_1_1 w.params) "text_in" (.ref 90) := .inl (by k_is)
theorem g_hung_out {w : World} : GlobIs (A0.heap_1_1 w.params) "hung_out" (.ref 97) := .inl (by k_is)
theorem g_hung_in {w : World} : GlobIs (A0.heap_1_1 w.params) "hung_in" (.ref 104) := .inl (by k_is)
theorem g_put_in {w : World} : GlobIs (A0.heap_1_1 w.params) "put_in" (.ref 111) := .inl (by k_is)
theorem g_insert_at {w : World} : GlobIs (A0.heap_1_1 w.params) "insert_at" (.ref 119) := .inl (by k_is)
theorem g_insert {w : World} : GlobIs (A0.heap_1_1 w.params) "insert" (.ref 127) := .inl (by k_is)
theorem g_delete {w : World} : GlobIs (A0.heap_1_1 w.params) "delete" (.ref 134) := .inl (by k_is)
theorem g_replace {w : World} : GlobIs (A0.heap_1_1 w.params) "replace" (.ref 142) := .inl (by k_is)
theorem g_word_spans {w : World} : GlobIs (A0.heap_1_1 w.params) "word_spans" (.ref 150) := .inl (by k_is)
theorem g_kept_words {w : World} : GlobIs (A0.heap_1_1 w.params) "kept_words" (.ref 157) := .inl (by k_is)
theorem g_narrowed {w : World} : GlobIs (A0.heap_1_1 w.params) "narrowed" (.ref 164) := .inl (by k_is)
theorem g_edits_between {w : World} : GlobIs (A0.heap_1_1 w.params) "edits_between" (.ref 171) := .inl (by k_is)
theorem g_put_text {w : World} : GlobIs (A0.heap_1_1 w.params) "put_text" (.ref 178) := .inl (by k_is)
theorem g_GapText {w : World} : GlobIs (A0.heap_1_1 w.params) "GapText" (.ref 265) := .inl (by k_is)
theorem g_Marker {w : World} : GlobIs (A0.heap_1_1 w.params) "Marker" (.ref 342) := .inl (by k_is)
theorem g_Markers {w : World} : GlobIs (A0.heap_1_1 w.params) "Markers" (.ref 410) := .inl (by k_is)
theorem g_Buffer {w : World} : GlobIs (A0.heap_1_1 w.params) "Buffer" (.ref 516) := .inl (by k_is)
theorem g_set_marker {w : World} : GlobIs (A0.heap_1_1 w.params) "set_marker" (.ref 525) := .inl (by k_is)
theorem g_law_draw {w : World} : GlobIs (A0.heap_1_1 w.params) "_law_draw" (.ref 532) := .inl (by k_is)
theorem g_law_fresh {w : World} : GlobIs (A0.heap_1_1 w.params) "_law_fresh" (.ref 537) := .inl (by k_is)
theorem g_law_words {w : World} : GlobIs (A0.heap_1_1 w.params) "_law_words" (.ref 544) := .inl (by k_is)
theorem g_law_gap {w : World} : GlobIs (A0.heap_1_1 w.params) "_law_gap" (.ref 551) := .inl (by k_is)
theorem g_law_joined {w : World} : GlobIs (A0.heap_1_1 w.params) "_law_joined" (.ref 558) := .inl (by k_is)
theorem g_BLANKS {w : World} : GlobIs (A0.heap_1_1 w.params) "BLANKS" (.ref 143) := .inl (by k_is)
theorem g_FARTHEST {w : World} : GlobIs (A0.heap_1_1 w.params) "FARTHEST" (.int 4 381) := .inl (by k_is)
theorem g_LONGEST {w : World} : GlobIs (A0.heap_1_1 w.params) "LONGEST" (.int 4194304 231) := .inl (by k_is)
theorem g_list {w : World} : GlobIs (A0.heap_1_1 w.params) "list" (.type "list") := .inr ⟨by k_is, by decide +kernel, by decide⟩
theorem g_range {w : World} : GlobIs (A0.heap_1_1 w.params) "range" (.type "range") := .inr ⟨by k_is, by decide +kernel, by decide⟩
theorem g_enumerate {w : World} : GlobIs (A0.heap_1_1 w.params) "enumerate" (.type "enumerate") := .inr ⟨by k_is, by decide +kernel, by decide⟩
theorem g_len {w : World} : GlobIs (A0.heap_1_1 w.params) "len" (.builtin "len") := .inr ⟨by k_is, by decide +kernel, by decide⟩
theorem g_min {w : World} : GlobIs (A0.heap_1_1 w.params) "min" (.builtin "min") := .inr ⟨by k_is, by decide +kernel, by decide⟩
theorem g_max {w : World} : GlobIs (A0.heap_1_1 w.params) "max" (.builtin "max") := .inr ⟨by k_is, by decide +kernel, by decide⟩
theorem g_abs {w : World} : GlobIs (A0.heap_1_1 w.params) "abs" (.builtin "abs") := .inr ⟨by k_is, by decide +kernel, by decide⟩
theorem g_sorted {w : World} : GlobIs (A0.heap_1_1 w.params) "sorted" (.builtin "sorted") := .inr ⟨by k_is, by decide +kernel, by decide⟩
theorem kp_48 {w : World} : keepIn (A0.heap_1_1 w.params) (.ref 48) = true := by k_is
theorem kp_55 {w : World} : keepIn (A0.heap_1_1 w.params) (.ref 55) = true := by k_is
theorem kp_62 {w : World} : keepIn (A0.heap_1_1 w.params) (.ref 62) = true := by k_is
theorem kp_69 {w : World} : keepIn (A0.heap_1_1 w.params) (.ref 69) = true := by k_is
theorem kp_76 {w : World} : keepIn (A0.heap_1_1 w.params) (.ref 76) = true := by k_is
theorem kp_83 {w : World} : keepIn (A0.heap_1_1 w.params) (.ref 83) = true := by k_is
theorem kp_90 {w : World} : keepIn (A0.heap_1_1 w.params) (.ref 90) = true := by k_is
theorem kp_97 {w : World} : keepIn (A0.heap_1_1 w.params) (.ref 97) = true := by k_is
theorem kp_104 {w : World} : keepIn (A0.heap_1_1 w.params) (.ref 104) = true := by k_is
theorem kp_111 {w : World} : keepIn (A0.heap_1_1 w.params) (.ref 111) = true := by k_is
theorem kp_119 {w : World} : keepIn (A0.heap_1_1 w.params) (.ref 119) = true := by k_is
theorem kp_127 {w : World} : keepIn (A0.heap_1_1 w.params) (.ref 127) = true := by k_is
theorem kp_134 {w : World} : keepIn (A0.heap_1_1 w.params) (.ref 134) = true := by k_is
theorem kp_142 {w : World} : keepIn (A0.heap_1_1 w.params) (.ref 142) = true := by k_is
theorem kp_150 {w : World} : keepIn (A0.heap_1_1 w.params) (.ref 150) = true := by k_is
theorem kp_157 {w : World} : keepIn (A0.heap_1_1 w.params) (.ref 157) = true := by k_is
theorem kp_164 {w : World} : keepIn (A0.heap_1_1 w.params) (.ref 164) = true := by k_is
theorem kp_171 {w : World} : keepIn (A0.heap_1_1 w.params) (.ref 171) = true := by k_is
theorem kp_178 {w : World} : keepIn (A0.heap_1_1 w.params) (.ref 178) = true := by k_is
theorem kp_265 {w : World} : keepIn (A0.heap_1_1 w.params) (.ref 265) = true := by k_is
theorem kp_342 {w : World} : keepIn (A0.heap_1_1 w.params) (.ref 342) = true := by k_is
theorem kp_410 {w : World} : keepIn (A0.heap_1_1 w.params) (.ref 410) = true := by k_is
theorem kp_516 {w : World} : keepIn (A0.heap_1_1 w.params) (.ref 516) = true := by k_is
theorem kp_525 {w : World} : keepIn (A0.heap_1_1 w.params) (.ref 525) = true := by k_is
theorem kp_532 {w : World} : keepIn (A0.heap_1_1 w.params) (.ref 532) = true := by k_is
theorem kp_537 {w : World} : keepIn (A0.heap_1_1 w.params) (.ref 537) = true := by k_is
theorem kp_544 {w : World} : keepIn (A0.heap_1_1 w.params) (.ref 544) = true := by k_is
theorem kp_551 {w : World} : keepIn (A0.heap_1_1 w.params) (.ref 551) = true := by k_is
theorem kp_558 {w : World} : keepIn (A0.heap_1_1 w.params) (.ref 558) = true := by k_is
theorem kp_192 {w : World} : keepIn (A0.heap_1_1 w.params) (.ref 192) = true := by k_is
theorem kp_199 {w : World} : keepIn (A0.heap_1_1 w.params) (.ref 199) = true := by k_is
theorem kp_206 {w : World} : keepIn (A0.heap_1_1 w.params) (.ref 206) = true := by k_is
theorem kp_213 {w : World} : keepIn (A0.heap_1_1 w.params) (.ref 213) = true := by k_is
theorem kp_220 {w : World} : keepIn (A0.heap_1_1 w.params) (.ref 220) = true := by k_is
theorem kp_227 {w : World} : keepIn (A0.heap_1_1 w.params) (.ref 227) = true := by k_is
theorem kp_234 {w : World} : keepIn (A0.heap_1_1 w.params) (.ref 234) = true := by k_is
theorem kp_241 {w : World} : keepIn (A0.heap_1_1 w.params) (.ref 241) = true := by k_is
theorem kp_318 {w : World} : keepIn (A0.heap_1_1 w.params) (.ref 318) = true := by k_is
theorem kp_358 {w : World} : keepIn (A0.heap_1_1 w.params) (.ref 358) = true := by k_is
theorem kp_365 {w : World} : keepIn (A0.heap_1_1 w.params) (.ref 365) = true := by k_is
theorem kp_372 {w : World} : keepIn (A0.heap_1_1 w.params) (.ref 372) = true := by k_is
theorem kp_393 {w : World} : keepIn (A0.heap_1_1 w.params) (.ref 393) = true := by k_is
theorem kp_400 {w : World} : keepIn (A0.heap_1_1 w.params) (.ref 400) = true := by k_is
theorem kp_407 {w : World} : keepIn (A0.heap_1_1 w.params) (.ref 407) = true := by k_is
theorem kp_429 {w : World} : keepIn (A0.heap_1_1 w.params) (.ref 429) = true := by k_is
theorem kp_464 {w : World} : keepIn (A0.heap_1_1 w.params) (.ref 464) = true := by k_is
theorem kp_478 {w : World} : keepIn (A0.heap_1_1 w.params) (.ref 478) = true := by k_is
theorem kp_485 {w : World} : keepIn (A0.heap_1_1 w.params) (.ref 485) = true := by k_is
theorem kp_513 {w : World} : keepIn (A0.heap_1_1 w.params) (.ref 513) = true := by k_is
theorem co_GapText {w : World} : ClsOk (A0.heap_1_1 w.params) 265 ["room", "cells", "gap_start", "gap_end"] := ⟨by k_is, by k_is, by k_is, by k_is, List.forall_mem_cons.mpr ⟨by k_is, List.forall_mem_cons.mpr ⟨by k_is, List.forall_mem_cons.mpr ⟨by k_is, List.forall_mem_cons.mpr ⟨by k_is, List.forall_mem_nil _⟩⟩⟩⟩, nodupB_of (by decide +kernel), by decide⟩
theorem mk_GapText {w : World} : MakesOk (A0.heap_1_1 w.params) 265 192 := ⟨by k_is, by k_is, by k_is⟩
theorem co_Marker {w : World} : ClsOk (A0.heap_1_1 w.params) 342 ["number", "advances", "buffer", "position"] := ⟨by k_is, by k_is, by k_is, by k_is, List.forall_mem_cons.mpr ⟨by k_is, List.forall_mem_cons.mpr ⟨by k_is, List.forall_mem_cons.mpr ⟨by k_is, List.forall_mem_cons.mpr ⟨by k_is, List.forall_mem_nil _⟩⟩⟩⟩, nodupB_of (by decide +kernel), by decide⟩
theorem mk_Marker {w : World} : MakesOk (A0.heap_1_1 w.params) 342 318 := ⟨by k_is, by k_is, by k_is⟩
theorem co_Markers {w : World} : ClsOk (A0.heap_1_1 w.params) 410 ["rows"] := ⟨by k_is, by k_is, by k_is, by k_is, List.forall_mem_cons.mpr ⟨by k_is, List.forall_mem_nil _⟩, nodupB_of (by decide +kernel), by decide⟩
theorem mk_Markers {w : World} : MakesOk (A0.heap_1_1 w.params) 410 358 := ⟨by k_is, by k_is, by k_is⟩
theorem co_Buffer {w : World} : ClsOk (A0.heap_1_1 w.params) 516 ["number", "name", "text", "markers", "point", "begv", "zv", "mark", "is_live", "is_read_only", "ticks", "codes_ticks", "saved_ticks", "listeners", "undo", "props", "overlays", "locals", "syntax", "file"] := ⟨by k_is, by k_is, by k_is, by k_is, List.forall_mem_cons.mpr ⟨by k_is, List.forall_mem_cons.mpr ⟨by k_is, List.forall_mem_cons.mpr ⟨by k_is, List.forall_mem_cons.mpr ⟨by k_is, List.forall_mem_cons.mpr ⟨by k_is, List.forall_mem_cons.mpr ⟨by k_is, List.forall_mem_cons.mpr ⟨by k_is, List.forall_mem_cons.mpr ⟨by k_is, List.forall_mem_cons.mpr ⟨by k_is, List.forall_mem_cons.mpr ⟨by k_is, List.forall_mem_cons.mpr ⟨by k_is, List.forall_mem_cons.mpr ⟨by k_is, List.forall_mem_cons.mpr ⟨by k_is, List.forall_mem_cons.mpr ⟨by k_is, List.forall_mem_cons.mpr ⟨by k_is, List.forall_mem_cons.mpr ⟨by k_is, List.forall_mem_cons.mpr ⟨by k_is, List.forall_mem_cons.mpr ⟨by k_is, List.forall_mem_cons.mpr ⟨by k_is, List.forall_mem_cons.mpr ⟨by k_is, List.forall_mem_nil _⟩⟩⟩⟩⟩⟩⟩⟩⟩⟩⟩⟩⟩⟩⟩⟩⟩⟩⟩⟩, nodupB_of (by decide +kernel), by decide⟩
theorem mk_Buffer {w : World} : MakesOk (A0.heap_1_1 w.params) 516 429 := ⟨by k_is, by k_is, by k_is⟩
theorem me_GapText_size {w : World} : MethIs (A0.heap_1_1 w.params) 265 ["room", "cells", "gap_start", "gap_end"] "size" 199 := ⟨by k_is, by k_is, by decide +kernel⟩
theorem me_GapText_code {w : World} : MethIs (A0.heap_1_1 w.params) 265 ["room", "cells", "gap_start", "gap_end"] "code" 206 := ⟨by k_is, by k_is, by decide +kernel⟩
theorem me_GapText_codes {w : World} : MethIs (A0.heap_1_1 w.params) 265 ["room", "cells", "gap_start", "gap_end"] "codes" 213 := ⟨by k_is, by k_is, by decide +kernel⟩
theorem me_GapText_move_gap {w : World} : MethIs (A0.heap_1_1 w.params) 265 ["room", "cells", "gap_start", "gap_end"] "move_gap" 220 := ⟨by k_is, by k_is, by decide +kernel⟩
theorem me_GapText_widen_gap {w : World} : MethIs (A0.heap_1_1 w.params) 265 ["room", "cells", "gap_start", "gap_end"] "widen_gap" 227 := ⟨by k_is, by k_is, by decide +kernel⟩
theorem me_GapText_insert {w : World} : MethIs (A0.heap_1_1 w.params) 265 ["room", "cells", "gap_start", "gap_end"] "insert" 234 := ⟨by k_is, by k_is, by decide +kernel⟩
theorem me_GapText_delete {w : World} : MethIs (A0.heap_1_1 w.params) 265 ["room", "cells", "gap_start", "gap_end"] "delete" 241 := ⟨by k_is, by k_is, by decide +kernel⟩
theorem me_Markers_numbers {w : World} : MethIs (A0.heap_1_1 w.params) 410 ["rows"] "numbers" 365 := ⟨by k_is, by k_is, by decide +kernel⟩
theorem me_Markers_put {w : World} : MethIs (A0.heap_1_1 w.params) 410 ["rows"] "put" 372 := ⟨by k_is, by k_is, by decide +kernel⟩
theorem me_Markers_inserted {w : World} : MethIs (A0.heap_1_1 w.params) 410 ["rows"] "inserted" 393 := ⟨by k_is, by k_is, by decide +kernel⟩
theorem me_Markers_deleted {w : World} : MethIs (A0.heap_1_1 w.params) 410 ["rows"] "deleted" 400 := ⟨by k_is, by k_is, by decide +kernel⟩
theorem me_Markers_replaced {w : World} : MethIs (A0.heap_1_1 w.params) 410 ["rows"] "replaced" 407 := ⟨by k_is, by k_is, by decide +kernel⟩
theorem me_Buffer_size {w : World} : MethIs (A0.heap_1_1 w.params) 516 ["number", "name", "text", "markers", "point", "begv", "zv", "mark", "is_live", "is_read_only", "ticks", "codes_ticks", "saved_ticks", "listeners", "undo", "props", "overlays", "locals", "syntax", "file"] "size" 464 := ⟨by k_is, by k_is, by decide +kernel⟩
theorem me_Buffer_codes {w : World} : MethIs (A0.heap_1_1 w.params) 516 ["number", "name", "text", "markers", "point", "begv", "zv", "mark", "is_live", "is_read_only", "ticks", "codes_ticks", "saved_ticks", "listeners", "undo", "props", "overlays", "locals", "syntax", "file"] "codes" 478 := ⟨by k_is, by k_is, by decide +kernel⟩
theorem me_Buffer_goto {w : World} : MethIs (A0.heap_1_1 w.params) 516 ["number", "name", "text", "markers", "point", "begv", "zv", "mark", "is_live", "is_read_only", "ticks", "codes_ticks", "saved_ticks", "listeners", "undo", "props", "overlays", "locals", "syntax", "file"] "goto" 485 := ⟨by k_is, by k_is, by decide +kernel⟩
theorem me_Buffer_touch {w : World} : MethIs (A0.heap_1_1 w.params) 516 ["number", "name", "text", "markers", "point", "begv", "zv", "mark", "is_live", "is_read_only", "ticks", "codes_ticks", "saved_ticks", "listeners", "undo", "props", "overlays", "locals", "syntax", "file"] "touch" 513 := ⟨by k_is, by k_is, by decide +kernel⟩
set_option compiler.extract_closed false
local macro_rules | `(tactic| kun_count) => `(tactic| with_reducible first | exact At.here | (apply At.there; kun_count))
local macro_rules | `(tactic| kxw_int) => `(tactic| with_reducible first | exact SetAt.here | (apply SetAt.there; kxw_int))
local macro_rules | `(tactic| lks_lit) => `(tactic| with_reducible first | exact List.mem_cons_self | (apply List.mem_cons_of_mem; lks_lit) | assumption)
local macro_rules | `(tactic| kxw_bool) => `(tactic| with_reducible first | exact Upd1.here | (apply Upd1.there; kxw_bool))
local macro_rules | `(tactic| kxw_text) => `(tactic| (intro _; kxw_bool))
local macro_rules | `(tactic| kun_lit) => `(tactic| with_reducible first | assumption | (refine' LstAt.le ?x ?y; (case y => assumption); (case x => kun_lit)) | (refine' IntsAt.le ?x ?y; (case y => assumption); (case x => kun_lit)) | (refine' TupAt.le ?x ?y; (case y => assumption); (case x => kun_lit)) | (refine' AttrsAt.le ?x ?y; (case y => assumption); (case x => kun_lit)) | (refine' SlcAt.le ?x ?y; (case y => assumption); (case x => kun_lit)) | (refine' CellAt.le ?x ?y; (case y => assumption); (case x => kun_lit)) | (refine' Inst.le ?x ?y; (case y => assumption); (case x => kun_lit)))
local macro_rules | `(tactic| kse_has) => `(tactic| with_reducible first | exact Le.rfl | assumption | (refine' Le.trans ?x ?y; (case y => assumption); (case x => kse_has)))
local macro_rules | `(tactic| kso_lit) => `(tactic| with_reducible first
  | assumption
  | exact St.ints (by assumption) (by lks_lit) (by assumption)
  | exact St.lst (by assumption) (by lks_lit) (by assumption)
  | (refine' IntsAt.le ?x ?y; (case y => exact St.le (by assumption)); (case x => kun_lit))
  | (refine' LstAt.le ?x ?y; (case y => exact St.le (by assumption)); (case x => kun_lit))
  | (refine' TupAt.le ?x ?y; (case y => exact St.le (by assumption)); (case x => kun_lit))
  | exact St.attrs (by assumption) (by lks_lit) (by assumption)
  | (refine' AttrsAt.le ?x ?y; (case y => exact St.le (by assumption)); (case x => kun_lit))
  | (refine' SlcAt.le ?x ?y; (case y => exact St.le (by assumption)); (case x => kun_lit))
  | (refine' CellAt.le ?x ?y; (case y => exact St.le (by assumption)); (case x => kun_lit))
  | (refine' Inst.le ?x ?y; (case y => exact St.le (by assumption)); (case x => kun_lit)))
local macro_rules | `(tactic| kic_val) => `(tactic| with_reducible first | exact VAt.here | (apply VAt.there; kic_val))
local macro_rules | `(tactic| kctr_letter) => `(tactic| with_reducible first | exact VSet.here | (apply VSet.there; kctr_letter))
local macro_rules | `(tactic| kma_look) => `(tactic| with_reducible first | exact IsPart.none | exact IsPart.int _ _)
local macro_rules | `(tactic| kpa_letter) => `(tactic| first | (first | lia | omega) | ((try simp only [sl_length, sizeLine_eq, List.length_replicate, List.length_append, List.length_cons, List.length_nil, List.length_take, List.length_drop]); (first | lia | omega)))
local macro_rules | `(tactic| kda_here) => `(tactic| with_reducible first | exact IntsAre.nil | (apply IntsAre.cons; kda_here))
variable {w : World} {G H g : Heap} {mg mb : Str → Option Value}

theorem draw_spec (B : Base (A0.heap_1_1 w.params) G mg mb) {d : Addr} {o : Obj} {ns : List Int} {many : Int} {tm : Tok} (hd : IntsO o ns) (hn : ns.length ≤ 1000) (hm : 0 < many) :
    Fn PG w (.ref 532) 10 [.ref d, .int many tm] G H g [(d, o)] (fun v g' W' => Ex2 fun t o' => An3 (v = .int (match ns with | [] => 0 | x :: _ => x % many) t) (W' = [(d, o')]) (IntsO o' ns.tail)) := by
  refine fn_def [("deck", .ref d), ("many", .int many tm)] ["deck", "many"] [] [some (.ref d), some (.int many tm)] (more := []) B (by k_is) (by k_is) (fun s _ => BindsTo.of_eq rfl) rfl rfl (by decide +kernel) ?_
  intro A h gs dr tk os L R sc S
  (with_reducible refine OpAll.all ?_; intro _ _; refine x_cons ?_; refine wpAny_Return_some ?_; refine IfExp_ ?_; refine wpAny_isTrue_Compare1 ?_ (by with_unfolding_all rfl); refine r_loc ‹_› ‹_› (by kun_count) ?_; refine List_ ?_; refine args_nil ?_)
  refine r_listI S ?_
  intro r h1 g1 hle1 hl1 S1
  have hi1 : IntsAt g1 r [] := hl1.ints .nil
  (with_reducible refine r_neI ‹_› (by kso_lit) (by kso_lit) ?_; refine wpAny_truthy_bool ?_; refine if_ndec ?_ ?_ <;> intro _; refine wpAny_BinOp ?_; refine MethodCall_ ?_ (by with_unfolding_all rfl); refine r_loc ‹_› ‹_› (by kun_count) ?_; rotate_left; refine r_int ?_; refine x_ret ?_; refine OpQ.out ‹_› ?_; rotate_left)

  · rename_i hne
    obtain ⟨vs, hv, hi⟩ := hd
    cases hi with
    | nil => exact absurd rfl hne
    | @cons k t rv rn hr =>
      (with_reducible refine r_method (by kso_lit) PySem.F.slot_list_pop PySem.F.type_list_pop ?_; refine r_cwbB ?_ (by with_unfolding_all rfl) (by with_unfolding_all rfl); refine args_cons ?_ (by with_unfolding_all rfl); refine r_int ?_; refine args_nil ?_)
      refine r_pop0 S1 hv (by kxw_text) (by have := hr.length; simp only [List.length_cons] at hn; rw [sizeLine_eq]; (first | lia | omega)) ?_
      intro h2 o' ho' S2
      (with_reducible refine r_loc ‹_› ‹_› (by kun_count) ?_)
      refine r_mod hm ?_
      (with_reducible refine x_ret ?_; refine OpQ.out ‹_› ?_)
      exact x_end S2 (W := [_]) (rest := []) (.refl _) ⟨_, _, rfl, rfl, ho'.ints hr⟩
  · rename_i hne
    subst hne
    exact x_end S1 (W := [_]) (rest := []) (.refl _) ⟨_, _, rfl, rfl, hd⟩
section
variable {w : World} {G H g : Heap} {mg mb : Str → Option Value}
noncomputable def GapO (P : Params) (ot oc : Obj) (c : Addr) (cells : List Int) (a b : Int) : Prop := (Ex3 fun t1 t2 t3 => AttrsO P ot ["room", "cells", "gap_start", "gap_end"] [.int 8 t1, .ref c, .int a t2, .int b t3]) ∧ IntsO oc cells ∧ (0 ≤ a ∧ a ≤ b ∧ b ≤ cells.length ∧ cells.length ≤ 2 ^ 16)
noncomputable def gtxt (cells : List Int) (a b : Int) : List Int := cells.take a.toNat ++ cells.drop b.toNat

theorem gsize_spec (B : Base (A0.heap_1_1 w.params) G mg mb) {t td c : Addr} {ot oc : Obj} {cells : List Int} {a b : Int} (hx : Inst g t 265 td) (hg : GapO w.params ot oc c cells a b) :
    Fn PG w (.ref 199) 10 [.ref t] G H g [(td, ot), (c, oc)] (fun v _ W' => W' = [(td, ot), (c, oc)] ∧ (Ex1 fun k => v = .int (cells.length - b + a) k)) := by
  obtain ⟨⟨t1, t2, t3, ha⟩, hc, hb⟩ := hg
  refine fn_def [("self", .ref t)] ["self"] ["len"] [some (.ref t)] (more := []) B (by k_is) (by k_is) (fun s _ => BindsTo.of_eq rfl) rfl rfl (by decide +kernel) ?_
  intro A h gs dr tk os L R sc S
  (with_reducible refine OpAll.all ?_; intro _ _; refine x_cons ?_; refine wpAny_Return_some ?_; refine wpAny_BinOp ?_; refine wpAny_BinOp ?_; refine Call_ ?_ (by with_unfolding_all rfl); refine r_glob ‹_› ‹_› ‹_› (by lks_lit) g_len ?_; refine r_cwbA ?_ (by with_unfolding_all rfl) (by with_unfolding_all rfl); refine args_cons ?_ (by with_unfolding_all rfl); refine Attribute_any_ ?_ (by with_unfolding_all rfl); refine r_loc ‹_› ‹_› (by kun_count) ?_; refine' r_get ?a1x1 ?a1x2 ?a1x3 ?a1x4 ?a1x5 ?a1x6 ?a1x7 ?_; (case a1x1 => assumption); (case a1x2 => assumption); (case a1x4 => kso_lit); (case a1x3 => exact co_GapText); (case a1x5 => kso_lit); (case a1x6 => kic_val); (case a1x7 => with_unfolding_all rfl); refine args_nil ?_; refine r_lenI (by kso_lit) (by kpa_letter) ?_; refine Attribute_any_ ?_ (by with_unfolding_all rfl); refine r_loc ‹_› ‹_› (by kun_count) ?_; refine' r_get ?a2x1 ?a2x2 ?a2x3 ?a2x4 ?a2x5 ?a2x6 ?a2x7 ?_; (case a2x1 => assumption); (case a2x2 => assumption); (case a2x4 => kso_lit); (case a2x3 => exact co_GapText); (case a2x5 => kso_lit); (case a2x6 => kic_val); (case a2x7 => with_unfolding_all rfl); refine r_sub ?_; refine Attribute_any_ ?_ (by with_unfolding_all rfl); refine r_loc ‹_› ‹_› (by kun_count) ?_; refine' r_get ?a3x1 ?a3x2 ?a3x3 ?a3x4 ?a3x5 ?a3x6 ?a3x7 ?_; (case a3x1 => assumption); (case a3x2 => assumption); (case a3x4 => kso_lit); (case a3x3 => exact co_GapText); (case a3x5 => kso_lit); (case a3x6 => kic_val); (case a3x7 => with_unfolding_all rfl); refine r_add ?_; refine x_ret ?_; refine OpQ.out ‹_› ?_)
  exact x_end S (W := [_, _]) (rest := []) (.refl _) ⟨rfl, _, rfl⟩

theorem nat3 {a b n : Int} (h : 0 ≤ a ∧ a ≤ b ∧ b ≤ n) : ∃ i j : Nat, a = i ∧ b = j ∧ i ≤ j := ⟨a.toNat, b.toNat, by (first | lia | omega), by (first | lia | omega), by (first | lia | omega)⟩
theorem gtxt_nat {cells : List Int} {i j : Nat} : gtxt cells i j = cells.take i ++ cells.drop j := by unfold gtxt; rw [Int.toNat_natCast, Int.toNat_natCast]
theorem sl_nat {cells : List Int} {i j : Nat} : sl cells i j = (cells.drop i).take (j - i) := by unfold sl; rw [Int.toNat_natCast, Int.toNat_natCast]
theorem take_len {cells : List Int} {i : Nat} (h : i ≤ cells.length) : (cells.take i).length = i := by rw [List.length_take, Nat.min_eq_left h]
theorem sl_gtxt1 {cells : List Int} {a b x y : Int} (hb : 0 ≤ a ∧ a ≤ b ∧ b ≤ cells.length) (hx : 0 ≤ x ∧ x ≤ y) (hy : y ≤ a) : sl cells x y = sl (gtxt cells a b) x y := by
  obtain ⟨i, j, rfl, rfl, hij⟩ := nat3 hb
  obtain ⟨k, m, rfl, rfl, hkm⟩ := nat3 ⟨hx.1, hx.2, hy⟩
  replace hb := hb.2.2
  replace hy : m ≤ i := Int.ofNat_le.mp hy
  replace hb : j ≤ cells.length := Int.ofNat_le.mp hb
  clear hx
  rw [gtxt_nat, sl_nat, sl_nat, List.drop_append_of_le_length (by rw [take_len (Nat.le_trans hij hb)]; exact Nat.le_trans hkm hy), List.drop_take, List.take_append_of_le_length (by rw [List.length_take, List.length_drop]; (first | lia | omega)), List.take_take, Nat.min_eq_left (Nat.sub_le_sub_right hy k)]
theorem sl_gtxt2 {cells : List Int} {a b x y : Int} (hb : 0 ≤ a ∧ a ≤ b ∧ b ≤ cells.length) (hx : a ≤ x ∧ x ≤ y) : sl cells (x + (b - a)) (y + (b - a)) = sl (gtxt cells a b) x y := by
  obtain ⟨i, j, rfl, rfl, hij⟩ := nat3 hb
  obtain ⟨k, m, rfl, rfl, hkm⟩ := nat3 (a := x) (b := y) (n := y) ⟨Int.le_trans hb.1 hx.1, hx.2, Int.le_refl _⟩
  replace hb : j ≤ cells.length := Int.ofNat_le.mp hb.2.2
  replace hx : i ≤ k := Int.ofNat_le.mp hx.1
  obtain ⟨d, rfl⟩ := Nat.exists_eq_add_of_le hij
  obtain ⟨e, rfl⟩ := Nat.exists_eq_add_of_le hx
  obtain ⟨f, rfl⟩ := Nat.exists_eq_add_of_le hkm
  rw [show (((i + e : Nat) : Int) + (((i + d : Nat) : Int) - (i : Int))) = ((i + e + d : Nat) : Int) by (first | lia | omega), show (((i + e + f : Nat) : Int) + (((i + d : Nat) : Int) - (i : Int))) = ((i + e + d + f : Nat) : Int) by (first | lia | omega), gtxt_nat, sl_nat, sl_nat, Nat.add_sub_cancel_left, Nat.add_sub_cancel_left]
  have h1 : (cells.take i).length = i := take_len (by (first | lia | omega))
  rw [← List.drop_drop (i := e) (j := i), List.drop_left' h1, List.drop_drop]
  congr 2
  (first | lia | omega)
theorem sl_gtxt3 {cells : List Int} {a b x y : Int} (hb : 0 ≤ a ∧ a ≤ b ∧ b ≤ cells.length) (hx : 0 ≤ x ∧ x ≤ a) (hy : a ≤ y) : sl cells x a ++ sl cells b (y + (b - a)) = sl (gtxt cells a b) x y := by
  obtain ⟨i, j, rfl, rfl, hij⟩ := nat3 hb
  obtain ⟨k, m, rfl, hm, hkm⟩ := nat3 (a := x) (b := y) (n := y) ⟨hx.1, Int.le_trans hx.2 hy, Int.le_refl _⟩
  subst hm
  replace hb : j ≤ cells.length := Int.ofNat_le.mp hb.2.2
  replace hx : k ≤ i := Int.ofNat_le.mp hx.2
  replace hy : i ≤ m := Int.ofNat_le.mp hy
  obtain ⟨d, rfl⟩ := Nat.exists_eq_add_of_le hij
  obtain ⟨e, rfl⟩ := Nat.exists_eq_add_of_le hx
  obtain ⟨f, rfl⟩ := Nat.exists_eq_add_of_le hy
  rw [show (((k + e + f : Nat) : Int) + (((k + e + d : Nat) : Int) - ((k + e : Nat) : Int))) = ((k + e + d + f : Nat) : Int) by (first | lia | omega), gtxt_nat, sl_nat, sl_nat, sl_nat, Nat.add_sub_cancel_left, Nat.add_sub_cancel_left, Nat.add_assoc k e f, Nat.add_sub_cancel_left]
  have h1 : (cells.take (k + e)).length = k + e := take_len (by (first | lia | omega))
  rw [List.drop_append_of_le_length (by rw [h1]; exact Nat.le_add_right _ _), List.drop_take, Nat.add_sub_cancel_left]
  have h2 : ((cells.drop k).take e).length = e := by rw [List.length_take, List.length_drop]; (first | lia | omega)
  rw [List.take_append, h2, List.take_of_length_le (l := (cells.drop k).take e) (by rw [h2]; exact Nat.le_add_right _ _), Nat.add_sub_cancel_left]

theorem sl_len {ns : List Int} {x y : Int} (h : 0 ≤ x ∧ x ≤ y ∧ y ≤ ns.length) : ((sl ns x y).length : Int) = y - x := by
  obtain ⟨i, j, rfl, rfl, hij⟩ := nat3 h
  obtain ⟨d, rfl⟩ := Nat.exists_eq_add_of_le hij
  have hl := Int.ofNat_le.mp h.2.2
  rw [sl_nat, List.length_take, List.length_drop, Nat.add_sub_cancel_left, Nat.min_eq_left (Nat.le_sub_of_add_le' hl)]
  (first | lia | omega)
theorem gcodes_spec (B : Base (A0.heap_1_1 w.params) G mg mb) {t td c : Addr} {ot oc : Obj} {cells : List Int} {a b x y : Int} {t4 t5 : Tok} (hx : Inst g t 265 td) (hg : GapO w.params ot oc c cells a b) (hxy : 0 ≤ x ∧ x ≤ y ∧ y ≤ cells.length - b + a) :
    Fn PG w (.ref 213) 10 [.ref t, .int x t4, .int y t5] G H g [(td, ot), (c, oc)] (fun v g' W' => W' = [(td, ot), (c, oc)] ∧ (Ex1 fun r => An2 (v = .ref r) (IntsAt g' r (sl (gtxt cells a b) x y)))) := by
  obtain ⟨⟨t1, t2, t3, ha⟩, hc, hb⟩ := hg
  refine fn_def [("self", .ref t), ("start", .int x t4), ("end", .int y t5)] ["self", "start", "end", "shift"] [] [some (.ref t), some (.int x t4), some (.int y t5), none] (more := ["shift"]) B (by k_is) (by k_is) (fun s _ => BindsTo.of_eq rfl) rfl rfl (by decide +kernel) ?_
  intro A h gs dr tk os L R sc S
  have q1 := sl_le cells x a
  have q2 := sl_le cells b (y + (b - a))
  (with_reducible refine OpAll.all ?_; intro _ _; refine x_cons ?_; refine x_assign ?_ (by with_unfolding_all rfl); refine wpAny_BinOp ?_; refine Attribute_any_ ?_ (by with_unfolding_all rfl); refine r_loc ‹_› ‹_› (by kun_count) ?_; refine' r_get ?a4x1 ?a4x2 ?a4x3 ?a4x4 ?a4x5 ?a4x6 ?a4x7 ?_; (case a4x1 => assumption); (case a4x2 => assumption); (case a4x4 => kso_lit); (case a4x3 => exact co_GapText); (case a4x5 => kso_lit); (case a4x6 => kic_val); (case a4x7 => with_unfolding_all rfl); refine Attribute_any_ ?_ (by with_unfolding_all rfl); refine r_loc ‹_› ‹_› (by kun_count) ?_; refine' r_get ?a5x1 ?a5x2 ?a5x3 ?a5x4 ?a5x5 ?a5x6 ?a5x7 ?_; (case a5x1 => assumption); (case a5x2 => assumption); (case a5x4 => kso_lit); (case a5x3 => exact co_GapText); (case a5x5 => kso_lit); (case a5x6 => kic_val); (case a5x7 => with_unfolding_all rfl); refine r_sub ?_; refine r_store ‹_› ‹_› (by kxw_int) ?_; intro _ _; refine x_next ?_; refine x_cons ?_; refine wpAny_If ?_; refine wpAny_isTrue_Compare1 ?_ (by with_unfolding_all rfl); refine r_loc ‹_› ‹_› (by kun_count) ?_; refine Attribute_any_ ?_ (by with_unfolding_all rfl); refine r_loc ‹_› ‹_› (by kun_count) ?_; refine' r_get ?a6x1 ?a6x2 ?a6x3 ?a6x4 ?a6x5 ?a6x6 ?a6x7 ?_; (case a6x1 => assumption); (case a6x2 => assumption); (case a6x4 => kso_lit); (case a6x3 => exact co_GapText); (case a6x5 => kso_lit); (case a6x6 => kic_val); (case a6x7 => with_unfolding_all rfl); refine r_lte ?_; refine wpAny_truthy_bool ?_; refine if_dec ?_ ?_ <;> intro _; refine x_cons ?_; refine wpAny_Return_some ?_; refine Subscript_ ?_; refine Attribute_any_ ?_ (by with_unfolding_all rfl); refine r_loc ‹_› ‹_› (by kun_count) ?_; refine' r_get ?a7x1 ?a7x2 ?a7x3 ?a7x4 ?a7x5 ?a7x6 ?a7x7 ?_; (case a7x1 => assumption); (case a7x2 => assumption); (case a7x4 => kso_lit); (case a7x3 => exact co_GapText); (case a7x5 => kso_lit); (case a7x6 => kic_val); (case a7x7 => with_unfolding_all rfl); refine r_slice ?_; refine wpAny_evalPart_some ?_; refine r_loc ‹_› ‹_› (by kun_count) ?_; refine wpAny_evalPart_some ?_; refine r_loc ‹_› ‹_› (by kun_count) ?_; refine wpAny_evalPart_none ?_; refine r_slck ‹_› ?_; intro _ _ _ _ _ _; refine r_subslice ‹_› (by kso_lit) (by kso_lit) (by kma_look) (by kma_look) (by kpa_letter) ?_ (by with_unfolding_all rfl); intro _ _ _ _ _ _; refine x_ret ?_; refine x_ret ?_; refine OpQ.out ‹_› ?_; rotate_left; refine wpAny_execs_nil ?_; refine x_next ?_; refine x_cons ?_; refine wpAny_If ?_; refine wpAny_isTrue_Compare1 ?_ (by with_unfolding_all rfl); refine r_loc ‹_› ‹_› (by kun_count) ?_; refine Attribute_any_ ?_ (by with_unfolding_all rfl); refine r_loc ‹_› ‹_› (by kun_count) ?_; refine' r_get ?a8x1 ?a8x2 ?a8x3 ?a8x4 ?a8x5 ?a8x6 ?a8x7 ?_; (case a8x1 => assumption); (case a8x2 => assumption); (case a8x4 => kso_lit); (case a8x3 => exact co_GapText); (case a8x5 => kso_lit); (case a8x6 => kic_val); (case a8x7 => with_unfolding_all rfl); refine r_gte ?_; refine wpAny_truthy_bool ?_; refine if_dec ?_ ?_ <;> intro _; refine x_cons ?_; refine wpAny_Return_some ?_; refine Subscript_ ?_; refine Attribute_any_ ?_ (by with_unfolding_all rfl); refine r_loc ‹_› ‹_› (by kun_count) ?_; refine' r_get ?a9x1 ?a9x2 ?a9x3 ?a9x4 ?a9x5 ?a9x6 ?a9x7 ?_; (case a9x1 => assumption); (case a9x2 => assumption); (case a9x4 => kso_lit); (case a9x3 => exact co_GapText); (case a9x5 => kso_lit); (case a9x6 => kic_val); (case a9x7 => with_unfolding_all rfl); refine r_slice ?_; refine wpAny_evalPart_some ?_; refine wpAny_BinOp ?_; refine r_loc ‹_› ‹_› (by kun_count) ?_; refine r_loc ‹_› ‹_› (by kun_count) ?_; refine r_add ?_; refine wpAny_evalPart_some ?_; refine wpAny_BinOp ?_; refine r_loc ‹_› ‹_› (by kun_count) ?_; refine r_loc ‹_› ‹_› (by kun_count) ?_; refine r_add ?_; refine wpAny_evalPart_none ?_; refine r_slck ‹_› ?_; intro _ _ _ _ _ _; refine r_subslice ‹_› (by kso_lit) (by kso_lit) (by kma_look) (by kma_look) (by kpa_letter) ?_ (by with_unfolding_all rfl); intro _ _ _ _ _ _; refine x_ret ?_; refine x_ret ?_; refine OpQ.out ‹_› ?_; rotate_left; refine wpAny_execs_nil ?_; refine x_next ?_; refine x_cons ?_; refine wpAny_Return_some ?_; refine wpAny_BinOp ?_; refine Subscript_ ?_; refine Attribute_any_ ?_ (by with_unfolding_all rfl); refine r_loc ‹_› ‹_› (by kun_count) ?_; refine' r_get ?a10x1 ?a10x2 ?a10x3 ?a10x4 ?a10x5 ?a10x6 ?a10x7 ?_; (case a10x1 => assumption); (case a10x2 => assumption); (case a10x4 => kso_lit); (case a10x3 => exact co_GapText); (case a10x5 => kso_lit); (case a10x6 => kic_val); (case a10x7 => with_unfolding_all rfl); refine r_slice ?_; refine wpAny_evalPart_some ?_; refine r_loc ‹_› ‹_› (by kun_count) ?_; refine wpAny_evalPart_some ?_; refine Attribute_any_ ?_ (by with_unfolding_all rfl); refine r_loc ‹_› ‹_› (by kun_count) ?_; refine' r_get ?a11x1 ?a11x2 ?a11x3 ?a11x4 ?a11x5 ?a11x6 ?a11x7 ?_; (case a11x1 => assumption); (case a11x2 => assumption); (case a11x4 => kso_lit); (case a11x3 => exact co_GapText); (case a11x5 => kso_lit); (case a11x6 => kic_val); (case a11x7 => with_unfolding_all rfl); refine wpAny_evalPart_none ?_; refine r_slck ‹_› ?_; intro _ _ _ _ _ _; refine r_subslice ‹_› (by kso_lit) (by kso_lit) (by kma_look) (by kma_look) (by kpa_letter) ?_ (by with_unfolding_all rfl); intro _ _ _ _ _ _; refine Subscript_ ?_; refine Attribute_any_ ?_ (by with_unfolding_all rfl); refine r_loc ‹_› ‹_› (by kun_count) ?_; refine' r_get ?a12x1 ?a12x2 ?a12x3 ?a12x4 ?a12x5 ?a12x6 ?a12x7 ?_; (case a12x1 => assumption); (case a12x2 => assumption); (case a12x4 => kso_lit); (case a12x3 => exact co_GapText); (case a12x5 => kso_lit); (case a12x6 => kic_val); (case a12x7 => with_unfolding_all rfl); refine r_slice ?_; refine wpAny_evalPart_some ?_; refine Attribute_any_ ?_ (by with_unfolding_all rfl); refine r_loc ‹_› ‹_› (by kun_count) ?_; refine' r_get ?a13x1 ?a13x2 ?a13x3 ?a13x4 ?a13x5 ?a13x6 ?a13x7 ?_; (case a13x1 => assumption); (case a13x2 => assumption); (case a13x4 => kso_lit); (case a13x3 => exact co_GapText); (case a13x5 => kso_lit); (case a13x6 => kic_val); (case a13x7 => with_unfolding_all rfl); refine wpAny_evalPart_some ?_; refine wpAny_BinOp ?_; refine r_loc ‹_› ‹_› (by kun_count) ?_; refine r_loc ‹_› ‹_› (by kun_count) ?_; refine r_add ?_; refine wpAny_evalPart_none ?_; refine r_slck ‹_› ?_; intro _ _ _ _ _ _; refine r_subslice ‹_› (by kso_lit) (by kso_lit) (by kma_look) (by kma_look) (by kpa_letter) ?_ (by with_unfolding_all rfl); intro _ _ _ _ _ _; refine r_addIm ‹_› (by kso_lit) (by kso_lit) (by kpa_letter) ?_; intro _ _ _ _ _ _; refine x_ret ?_; refine OpQ.out ‹_› ?_; rotate_left)
  · refine x_end0 (by assumption) ⟨rfl, _, rfl, ?_⟩
    rw [← sl_gtxt1 ⟨hb.1, hb.2.1, hb.2.2.1⟩ ⟨hxy.1, hxy.2.1⟩ (by assumption)]; assumption
  · refine x_end0 (by assumption) ⟨rfl, _, rfl, ?_⟩
    rw [← sl_gtxt2 ⟨hb.1, hb.2.1, hb.2.2.1⟩ ⟨by assumption, hxy.2.1⟩]; assumption
  · refine x_end0 (by assumption) ⟨rfl, _, rfl, ?_⟩
    rw [← sl_gtxt3 ⟨hb.1, hb.2.1, hb.2.2.1⟩ ⟨hxy.1, by (first | lia | omega)⟩ (by (first | lia | omega))]; assumption

theorem mid_len {cells s : List Int} {k m : Nat} (hk : k ≤ m) (hm : m ≤ cells.length) (hs : s.length = m - k) : (cells.take k ++ s ++ cells.drop m).length = cells.length := by
  rw [List.length_append, List.length_append, take_len (Nat.le_trans hk hm), List.length_drop, hs]; (first | lia | omega)
/-- the gap goes back: what stood ahead of it stands behind -/
theorem move1 {cells : List Int} {a b x : Int} (hb : 0 ≤ a ∧ a ≤ b ∧ b ≤ cells.length) (hx : 0 ≤ x ∧ x ≤ a) : (sl cells x a).length = (a - x).toNat ∧ gtxt (cells.take (b - (sl cells x a).length).toNat ++ sl cells x a ++ cells.drop b.toNat) x (x + (b - a)) = gtxt cells a b ∧ (cells.take (b - (sl cells x a).length).toNat ++ sl cells x a ++ cells.drop b.toNat).length = cells.length := by
  obtain ⟨i, j, rfl, rfl, hij⟩ := nat3 hb
  obtain ⟨k, m, rfl, hm, hkm⟩ := nat3 (a := x) (b := (i : Int)) (n := (i : Int)) ⟨hx.1, hx.2, Int.le_refl _⟩
  replace hb : j ≤ cells.length := Int.ofNat_le.mp hb.2.2
  replace hx : k ≤ i := Int.ofNat_le.mp hx.2
  clear hm hkm
  obtain ⟨d, rfl⟩ := Nat.exists_eq_add_of_le hij
  obtain ⟨e, rfl⟩ := Nat.exists_eq_add_of_le hx
  have hl : (sl cells ((k : Nat) : Int) ((k + e : Nat) : Int)).length = e := by rw [sl_nat, List.length_take, List.length_drop]; (first | lia | omega)
  rw [hl, show ((((k + e + d : Nat) : Int)) - ((e : Nat) : Int)).toNat = k + d by (first | lia | omega), show (((k : Nat) : Int) + (((k + e + d : Nat) : Int) - ((k + e : Nat) : Int))) = ((k + d : Nat) : Int) by (first | lia | omega), Int.toNat_natCast, show ((((k + e : Nat) : Int)) - ((k : Nat) : Int)).toNat = e by (first | lia | omega), gtxt_nat, gtxt_nat]
  have h1 : (cells.take (k + d)).length = k + d := take_len (by (first | lia | omega))
  refine ⟨rfl, ?_, mid_len (by (first | lia | omega)) hb (by rw [hl]; (first | lia | omega))⟩
  rw [List.append_assoc, List.take_append_of_le_length (by rw [h1]; exact Nat.le_add_right _ _), List.take_take, Nat.min_eq_left (Nat.le_add_right _ _), List.drop_left' h1, sl_nat, Nat.add_sub_cancel_left, ← List.append_assoc, ← List.take_add]
theorem move2 {cells : List Int} {a b x : Int} (hb : 0 ≤ a ∧ a ≤ b ∧ b ≤ cells.length) (hx : a ≤ x ∧ x ≤ cells.length - b + a) : (sl cells b (b + x - a)).length = (x - a).toNat ∧ gtxt (cells.take a.toNat ++ sl cells b (b + x - a) ++ cells.drop (a + (sl cells b (b + x - a)).length).toNat) x (x + (b - a)) = gtxt cells a b ∧ (cells.take a.toNat ++ sl cells b (b + x - a) ++ cells.drop (a + (sl cells b (b + x - a)).length).toNat).length = cells.length := by
  obtain ⟨i, j, rfl, rfl, hij⟩ := nat3 hb
  obtain ⟨k, hk⟩ : ∃ k : Nat, x = i + k := ⟨(x - i).toNat, by (first | lia | omega)⟩
  subst hk
  obtain ⟨d, rfl⟩ := Nat.exists_eq_add_of_le hij
  have hc : i + d + k ≤ cells.length := by (first | lia | omega)
  clear hx hb
  rw [show ((((i + d : Nat) : Int)) + ((i : Int) + (k : Int)) - (i : Int)) = ((i + d + k : Nat) : Int) by (first | lia | omega), show ((i : Int) + (k : Int) - (i : Int)).toNat = k by (first | lia | omega), show ((i : Int) + (k : Int) + (((i + d : Nat) : Int) - (i : Int))) = ((i + d + k : Nat) : Int) by (first | lia | omega), show ((i : Int) + (k : Int)) = ((i + k : Nat) : Int) by (first | lia | omega)]
  have hl : (sl cells ((i + d : Nat) : Int) ((i + d + k : Nat) : Int)).length = k := by rw [sl_nat, List.length_take, List.length_drop]; (first | lia | omega)
  rw [hl, Int.toNat_natCast, show ((i : Int) + (k : Int)).toNat = i + k by (first | lia | omega), gtxt_nat, gtxt_nat]
  have hs2 : sl cells ((i + d : Nat) : Int) ((i + d + k : Nat) : Int) = (cells.drop (i + d)).take k := by rw [sl_nat, Nat.add_sub_cancel_left]
  rw [hs2] at hl ⊢
  have h1 : (cells.take i ++ (cells.drop (i + d)).take k).length = i + k := by rw [List.length_append, take_len (by (first | lia | omega)), hl]
  refine ⟨rfl, ?_, mid_len (Nat.le_add_right _ _) (by (first | lia | omega)) (by rw [hl, Nat.add_sub_cancel_left])⟩
  rw [List.take_left' h1, show i + d + k = i + k + d by (first | lia | omega), ← List.drop_drop (i := d) (j := i + k), List.drop_left' h1, List.drop_drop, List.append_assoc]
  congr 1
  rw [show i + k + d = i + d + k by (first | lia | omega), ← List.drop_drop (i := k) (j := i + d), List.take_append_drop]

theorem gmove_spec (B : Base (A0.heap_1_1 w.params) G mg mb) {t td c : Addr} {ot oc : Obj} {cells : List Int} {a b x : Int} {t4 : Tok} (hx : Inst g t 265 td) (hg : GapO w.params ot oc c cells a b) (hxy : 0 ≤ x ∧ x ≤ cells.length - b + a) :
    Fn PG w (.ref 220) 10 [.ref t, .int x t4] G H g [(td, ot), (c, oc)] (fun v _ W' => v = .none ∧ (Ex3 fun ot' oc' cells' => An4 (W' = [(td, ot'), (c, oc')]) (GapO w.params ot' oc' c cells' x (x + (b - a))) (gtxt cells' x (x + (b - a)) = gtxt cells a b) (cells'.length = cells.length))) := by
  obtain ⟨⟨t1, t2, t3, ha⟩, hc, hb⟩ := hg
  refine fn_def [("self", .ref t), ("at", .int x t4)] ["self", "at", "moved"] ["len"] [some (.ref t), some (.int x t4), none] (more := ["moved"]) B (by k_is) (by k_is) (fun s _ => BindsTo.of_eq rfl) rfl rfl (by decide +kernel) ?_
  intro A h gs dr tk os L R sc S
  have q1 : x < a → ((sl cells x a).length : Int) = a - x := fun h => sl_len ⟨hxy.1, Int.le_of_lt h, Int.le_trans hb.2.1 hb.2.2.1⟩
  have q2 : ¬ x < a → ((sl cells b (b + x - a)).length : Int) = x - a := fun h => by
    rw [sl_len ⟨Int.le_trans hb.1 hb.2.1, by (first | lia | omega), by (first | lia | omega)⟩]; (first | lia | omega)
  (with_reducible refine OpAll.all ?_; intro _ _; refine x_cons ?_; refine wpAny_If ?_; refine wpAny_isTrue_Compare1 ?_ (by with_unfolding_all rfl); refine r_loc ‹_› ‹_› (by kun_count) ?_; refine Attribute_any_ ?_ (by with_unfolding_all rfl); refine r_loc ‹_› ‹_› (by kun_count) ?_; refine' r_get ?a14x1 ?a14x2 ?a14x3 ?a14x4 ?a14x5 ?a14x6 ?a14x7 ?_; (case a14x1 => assumption); (case a14x2 => assumption); (case a14x4 => kso_lit); (case a14x3 => exact co_GapText); (case a14x5 => kso_lit); (case a14x6 => kic_val); (case a14x7 => with_unfolding_all rfl); refine r_lt ?_; refine wpAny_truthy_bool ?_; refine if_dec ?_ ?_ <;> intro _; refine x_cons ?_; refine x_assign ?_ (by with_unfolding_all rfl); refine Subscript_ ?_; refine Attribute_any_ ?_ (by with_unfolding_all rfl); refine r_loc ‹_› ‹_› (by kun_count) ?_; refine' r_get ?a15x1 ?a15x2 ?a15x3 ?a15x4 ?a15x5 ?a15x6 ?a15x7 ?_; (case a15x1 => assumption); (case a15x2 => assumption); (case a15x4 => kso_lit); (case a15x3 => exact co_GapText); (case a15x5 => kso_lit); (case a15x6 => kic_val); (case a15x7 => with_unfolding_all rfl); refine r_slice ?_; refine wpAny_evalPart_some ?_; refine r_loc ‹_› ‹_› (by kun_count) ?_; refine wpAny_evalPart_some ?_; refine Attribute_any_ ?_ (by with_unfolding_all rfl); refine r_loc ‹_› ‹_› (by kun_count) ?_; refine' r_get ?a16x1 ?a16x2 ?a16x3 ?a16x4 ?a16x5 ?a16x6 ?a16x7 ?_; (case a16x1 => assumption); (case a16x2 => assumption); (case a16x4 => kso_lit); (case a16x3 => exact co_GapText); (case a16x5 => kso_lit); (case a16x6 => kic_val); (case a16x7 => with_unfolding_all rfl); refine wpAny_evalPart_none ?_; refine r_slck ‹_› ?_; intro _ _ _ _ _ _; refine r_subslice ‹_› (by kso_lit) (by kso_lit) (by kma_look) (by kma_look) (by kpa_letter) ?_ (by with_unfolding_all rfl); intro _ _ _ _ _ _; refine r_store ‹_› ‹_› (by kxw_int) ?_; intro _ _; refine x_next ?_; refine x_cons ?_; refine wpAny_Assign_Subscript ?_ (by with_unfolding_all rfl); refine r_loc ‹_› ‹_› (by kun_count) ?_; refine Attribute_any_ ?_ (by with_unfolding_all rfl); refine r_loc ‹_› ‹_› (by kun_count) ?_; refine' r_get ?a17x1 ?a17x2 ?a17x3 ?a17x4 ?a17x5 ?a17x6 ?a17x7 ?_; (case a17x1 => assumption); (case a17x2 => assumption); (case a17x4 => kso_lit); (case a17x3 => exact co_GapText); (case a17x5 => kso_lit); (case a17x6 => kic_val); (case a17x7 => with_unfolding_all rfl); refine r_slice ?_; refine wpAny_evalPart_some ?_; refine wpAny_BinOp ?_; refine Attribute_any_ ?_ (by with_unfolding_all rfl); refine r_loc ‹_› ‹_› (by kun_count) ?_; refine' r_get ?a18x1 ?a18x2 ?a18x3 ?a18x4 ?a18x5 ?a18x6 ?a18x7 ?_; (case a18x1 => assumption); (case a18x2 => assumption); (case a18x4 => kso_lit); (case a18x3 => exact co_GapText); (case a18x5 => kso_lit); (case a18x6 => kic_val); (case a18x7 => with_unfolding_all rfl); refine Call_ ?_ (by with_unfolding_all rfl); refine r_glob ‹_› ‹_› ‹_› (by lks_lit) g_len ?_; refine r_cwbA ?_ (by with_unfolding_all rfl) (by with_unfolding_all rfl); refine args_cons ?_ (by with_unfolding_all rfl); refine r_loc ‹_› ‹_› (by kun_count) ?_; refine args_nil ?_; refine r_lenI (by kso_lit) (by kpa_letter) ?_; refine r_sub ?_; refine wpAny_evalPart_some ?_; refine Attribute_any_ ?_ (by with_unfolding_all rfl); refine r_loc ‹_› ‹_› (by kun_count) ?_; refine' r_get ?a19x1 ?a19x2 ?a19x3 ?a19x4 ?a19x5 ?a19x6 ?a19x7 ?_; (case a19x1 => assumption); (case a19x2 => assumption); (case a19x4 => kso_lit); (case a19x3 => exact co_GapText); (case a19x5 => kso_lit); (case a19x6 => kic_val); (case a19x7 => with_unfolding_all rfl); refine wpAny_evalPart_none ?_; refine r_slck ‹_› ?_; intro _ _ _ _ _ _; refine r_setslice ‹_› ‹_› (by kxw_text) (by kso_lit) (by kma_look) (by kma_look) (by kso_lit) (by kpa_letter) ?_; intro _ _ _ _; refine x_next ?_; refine x_cons ?_; refine plainObj_wpAny_Assign_Attribute ?_ (by with_unfolding_all rfl); refine wpAny_BinOp ?_; refine Attribute_any_ ?_ (by with_unfolding_all rfl); refine r_loc ‹_› ‹_› (by kun_count) ?_; refine' r_get ?a20x1 ?a20x2 ?a20x3 ?a20x4 ?a20x5 ?a20x6 ?a20x7 ?_; (case a20x1 => assumption); (case a20x2 => assumption); (case a20x4 => kso_lit); (case a20x3 => exact co_GapText); (case a20x5 => kso_lit); (case a20x6 => kic_val); (case a20x7 => with_unfolding_all rfl); refine Call_ ?_ (by with_unfolding_all rfl); refine r_glob ‹_› ‹_› ‹_› (by lks_lit) g_len ?_; refine r_cwbA ?_ (by with_unfolding_all rfl) (by with_unfolding_all rfl); refine args_cons ?_ (by with_unfolding_all rfl); refine r_loc ‹_› ‹_› (by kun_count) ?_; refine args_nil ?_; refine r_lenI (by kso_lit) (by kpa_letter) ?_; refine r_sub ?_; refine r_loc ‹_› ‹_› (by kun_count) ?_; refine' r_set ?a21x1 ?a21x2 ?a21x3 ?a21x4 ?a21x5 ?a21x6 ?a21x7 ?_; (case a21x1 => assumption); (case a21x2 => assumption); (case a21x4 => kso_lit); (case a21x3 => exact co_GapText); (case a21x5 => kxw_text); (case a21x6 => assumption); (case a21x7 => kctr_letter); intro _ _ _ _; refine x_next ?_; refine wpAny_execs_nil ?_; refine x_next ?_; refine x_cons ?_; refine plainObj_wpAny_Assign_Attribute ?_ (by with_unfolding_all rfl); refine r_loc ‹_› ‹_› (by kun_count) ?_; refine r_loc ‹_› ‹_› (by kun_count) ?_; refine' r_set ?a22x1 ?a22x2 ?a22x3 ?a22x4 ?a22x5 ?a22x6 ?a22x7 ?_; (case a22x1 => assumption); (case a22x2 => assumption); (case a22x4 => kso_lit); (case a22x3 => exact co_GapText); (case a22x5 => kxw_text); (case a22x6 => assumption); (case a22x7 => kctr_letter); intro _ _ _ _; refine x_next ?_; refine wpAny_execs_nil ?_; refine OpQ.out ‹_› ?_; rotate_left; refine x_cons ?_; refine x_assign ?_ (by with_unfolding_all rfl); refine Subscript_ ?_; refine Attribute_any_ ?_ (by with_unfolding_all rfl); refine r_loc ‹_› ‹_› (by kun_count) ?_; refine' r_get ?a23x1 ?a23x2 ?a23x3 ?a23x4 ?a23x5 ?a23x6 ?a23x7 ?_; (case a23x1 => assumption); (case a23x2 => assumption); (case a23x4 => kso_lit); (case a23x3 => exact co_GapText); (case a23x5 => kso_lit); (case a23x6 => kic_val); (case a23x7 => with_unfolding_all rfl); refine r_slice ?_; refine wpAny_evalPart_some ?_; refine Attribute_any_ ?_ (by with_unfolding_all rfl); refine r_loc ‹_› ‹_› (by kun_count) ?_; refine' r_get ?a24x1 ?a24x2 ?a24x3 ?a24x4 ?a24x5 ?a24x6 ?a24x7 ?_; (case a24x1 => assumption); (case a24x2 => assumption); (case a24x4 => kso_lit); (case a24x3 => exact co_GapText); (case a24x5 => kso_lit); (case a24x6 => kic_val); (case a24x7 => with_unfolding_all rfl); refine wpAny_evalPart_some ?_; refine wpAny_BinOp ?_; refine wpAny_BinOp ?_; refine Attribute_any_ ?_ (by with_unfolding_all rfl); refine r_loc ‹_› ‹_› (by kun_count) ?_; refine' r_get ?a25x1 ?a25x2 ?a25x3 ?a25x4 ?a25x5 ?a25x6 ?a25x7 ?_; (case a25x1 => assumption); (case a25x2 => assumption); (case a25x4 => kso_lit); (case a25x3 => exact co_GapText); (case a25x5 => kso_lit); (case a25x6 => kic_val); (case a25x7 => with_unfolding_all rfl); refine r_loc ‹_› ‹_› (by kun_count) ?_; refine r_add ?_; refine Attribute_any_ ?_ (by with_unfolding_all rfl); refine r_loc ‹_› ‹_› (by kun_count) ?_; refine' r_get ?a26x1 ?a26x2 ?a26x3 ?a26x4 ?a26x5 ?a26x6 ?a26x7 ?_; (case a26x1 => assumption); (case a26x2 => assumption); (case a26x4 => kso_lit); (case a26x3 => exact co_GapText); (case a26x5 => kso_lit); (case a26x6 => kic_val); (case a26x7 => with_unfolding_all rfl); refine r_sub ?_; refine wpAny_evalPart_none ?_; refine r_slck ‹_› ?_; intro _ _ _ _ _ _; refine r_subslice ‹_› (by kso_lit) (by kso_lit) (by kma_look) (by kma_look) (by kpa_letter) ?_ (by with_unfolding_all rfl); intro _ _ _ _ _ _; refine r_store ‹_› ‹_› (by kxw_int) ?_; intro _ _; refine x_next ?_; refine x_cons ?_; refine wpAny_Assign_Subscript ?_ (by with_unfolding_all rfl); refine r_loc ‹_› ‹_› (by kun_count) ?_; refine Attribute_any_ ?_ (by with_unfolding_all rfl); refine r_loc ‹_› ‹_› (by kun_count) ?_; refine' r_get ?a27x1 ?a27x2 ?a27x3 ?a27x4 ?a27x5 ?a27x6 ?a27x7 ?_; (case a27x1 => assumption); (case a27x2 => assumption); (case a27x4 => kso_lit); (case a27x3 => exact co_GapText); (case a27x5 => kso_lit); (case a27x6 => kic_val); (case a27x7 => with_unfolding_all rfl); refine r_slice ?_; refine wpAny_evalPart_some ?_; refine Attribute_any_ ?_ (by with_unfolding_all rfl); refine r_loc ‹_› ‹_› (by kun_count) ?_; refine' r_get ?a28x1 ?a28x2 ?a28x3 ?a28x4 ?a28x5 ?a28x6 ?a28x7 ?_; (case a28x1 => assumption); (case a28x2 => assumption); (case a28x4 => kso_lit); (case a28x3 => exact co_GapText); (case a28x5 => kso_lit); (case a28x6 => kic_val); (case a28x7 => with_unfolding_all rfl); refine wpAny_evalPart_some ?_; refine wpAny_BinOp ?_; refine Attribute_any_ ?_ (by with_unfolding_all rfl); refine r_loc ‹_› ‹_› (by kun_count) ?_; refine' r_get ?a29x1 ?a29x2 ?a29x3 ?a29x4 ?a29x5 ?a29x6 ?a29x7 ?_; (case a29x1 => assumption); (case a29x2 => assumption); (case a29x4 => kso_lit); (case a29x3 => exact co_GapText); (case a29x5 => kso_lit); (case a29x6 => kic_val); (case a29x7 => with_unfolding_all rfl); refine Call_ ?_ (by with_unfolding_all rfl); refine r_glob ‹_› ‹_› ‹_› (by lks_lit) g_len ?_; refine r_cwbA ?_ (by with_unfolding_all rfl) (by with_unfolding_all rfl); refine args_cons ?_ (by with_unfolding_all rfl); refine r_loc ‹_› ‹_› (by kun_count) ?_; refine args_nil ?_; refine r_lenI (by kso_lit) (by kpa_letter) ?_; refine r_add ?_; refine wpAny_evalPart_none ?_; refine r_slck ‹_› ?_; intro _ _ _ _ _ _; refine r_setslice ‹_› ‹_› (by kxw_text) (by kso_lit) (by kma_look) (by kma_look) (by kso_lit) (by kpa_letter) ?_; intro _ _ _ _; refine x_next ?_; refine x_cons ?_; refine plainObj_wpAny_Assign_Attribute ?_ (by with_unfolding_all rfl); refine wpAny_BinOp ?_; refine Attribute_any_ ?_ (by with_unfolding_all rfl); refine r_loc ‹_› ‹_› (by kun_count) ?_; refine' r_get ?a30x1 ?a30x2 ?a30x3 ?a30x4 ?a30x5 ?a30x6 ?a30x7 ?_; (case a30x1 => assumption); (case a30x2 => assumption); (case a30x4 => kso_lit); (case a30x3 => exact co_GapText); (case a30x5 => kso_lit); (case a30x6 => kic_val); (case a30x7 => with_unfolding_all rfl); refine Call_ ?_ (by with_unfolding_all rfl); refine r_glob ‹_› ‹_› ‹_› (by lks_lit) g_len ?_; refine r_cwbA ?_ (by with_unfolding_all rfl) (by with_unfolding_all rfl); refine args_cons ?_ (by with_unfolding_all rfl); refine r_loc ‹_› ‹_› (by kun_count) ?_; refine args_nil ?_; refine r_lenI (by kso_lit) (by kpa_letter) ?_; refine r_add ?_; refine r_loc ‹_› ‹_› (by kun_count) ?_; refine' r_set ?a31x1 ?a31x2 ?a31x3 ?a31x4 ?a31x5 ?a31x6 ?a31x7 ?_; (case a31x1 => assumption); (case a31x2 => assumption); (case a31x4 => kso_lit); (case a31x3 => exact co_GapText); (case a31x5 => kxw_text); (case a31x6 => assumption); (case a31x7 => kctr_letter); intro _ _ _ _; refine x_next ?_; refine wpAny_execs_nil ?_; refine x_next ?_; refine x_cons ?_; refine plainObj_wpAny_Assign_Attribute ?_ (by with_unfolding_all rfl); refine r_loc ‹_› ‹_› (by kun_count) ?_; refine r_loc ‹_› ‹_› (by kun_count) ?_; refine' r_set ?a32x1 ?a32x2 ?a32x3 ?a32x4 ?a32x5 ?a32x6 ?a32x7 ?_; (case a32x1 => assumption); (case a32x2 => assumption); (case a32x4 => kso_lit); (case a32x3 => exact co_GapText); (case a32x5 => kxw_text); (case a32x6 => assumption); (case a32x7 => kctr_letter); intro _ _ _ _; refine x_next ?_; refine wpAny_execs_nil ?_; refine OpQ.out ‹_› ?_; rotate_left)
  · obtain ⟨m1, m2, m3⟩ := move1 (x := x) ⟨hb.1, hb.2.1, hb.2.2.1⟩ ⟨hxy.1, by (first | lia | omega)⟩
    have e : b - ((sl cells x a).length : Int) = x + (b - a) := by rw [m1]; (first | lia | omega)
    exact x_endN0 (by assumption) ⟨rfl, _, _, _, rfl, ⟨by rw [← e]; exact ⟨_, _, _, by assumption⟩, by assumption, by rw [m3]; (first | lia | omega)⟩, m2, m3⟩
  · obtain ⟨m1, m2, m3⟩ := move2 (x := x) ⟨hb.1, hb.2.1, hb.2.2.1⟩ ⟨by (first | lia | omega), hxy.2⟩
    have e : b + ((sl cells b (b + x - a)).length : Int) = x + (b - a) := by rw [m1]; (first | lia | omega)
    have e2 : a + ((sl cells b (b + x - a)).length : Int) = x := by rw [m1]; (first | lia | omega)
    exact x_endN0 (by assumption) ⟨rfl, _, _, _, rfl, ⟨by rw [← e]; exact ⟨_, _, _, by assumption⟩, by assumption, by rw [m3]; (first | lia | omega)⟩, m2, m3⟩

end
section
variable {w : World} {G H g : Heap} {mg mb : Str → Option Value}
/-! the gap is widened -/
theorem put_len {l s : List Int} {k : Nat} : (l.take k ++ s ++ l.drop k).length = l.length + s.length := by
  have h := congrArg List.length (List.take_append_drop k l)
  rw [List.length_append] at h
  rw [List.length_append, List.length_append]
  (first | lia | omega)
theorem widen1 {cells : List Int} {a b : Int} (hb : 0 ≤ a ∧ a ≤ b ∧ b ≤ cells.length) (n : List Int) : gtxt (cells.take b.toNat ++ n ++ cells.drop b.toNat) a (b + n.length) = gtxt cells a b := by
  obtain ⟨i, j, rfl, rfl, hij⟩ := nat3 hb
  replace hb := Int.ofNat_le.mp hb.2.2
  rw [show ((j : Nat) : Int) + (n.length : Int) = ((j + n.length : Nat) : Int) from (Int.natCast_add ..).symm, Int.toNat_natCast, gtxt_nat, gtxt_nat]
  have e1 : (cells.take j ++ n).length = j + n.length := by rw [List.length_append, take_len hb]
  rw [List.drop_left' e1, List.append_assoc, List.take_append_of_le_length (by rw [take_len hb]; exact hij), List.take_take, Nat.min_eq_left hij]
theorem gwiden_spec (B : Base (A0.heap_1_1 w.params) G mg mb) {t td c : Addr} {ot oc : Obj} {cells : List Int} {a b x : Int} {t4 : Tok} (hx : Inst g t 265 td) (hg : GapO w.params ot oc c cells a b) (hxy : 0 ≤ x ∧ x ≤ 900 ∧ cells.length ≤ 2 ^ 15) :
    Fn PG w (.ref 227) 10 [.ref t, .int x t4] G H g [(td, ot), (c, oc)] (fun v _ W' => v = .none ∧ (Ex4 fun ot' oc' cells' b' => An4 (W' = [(td, ot'), (c, oc')]) (GapO w.params ot' oc' c cells' a b') (gtxt cells' a b' = gtxt cells a b) (x ≤ b' - a ∧ (cells'.length : Int) = cells.length - b + b' ∧ (b' = b ∨ b' = a + x + 8)))) := by
  obtain ⟨⟨t1, t2, t3, ha⟩, hc, hb⟩ := hg
  refine fn_def [("self", .ref t), ("wanted", .int x t4)] ["self", "wanted", "lack"] [] [some (.ref t), some (.int x t4), none] (more := ["lack"]) B (by k_is) (by k_is) (fun s _ => BindsTo.of_eq rfl) rfl rfl (by decide +kernel) ?_
  intro A h gs dr tk os L R sc S
  (with_reducible refine OpAll.all ?_; intro _ _; refine x_cons ?_; refine x_assign ?_ (by with_unfolding_all rfl); refine wpAny_BinOp ?_; refine r_loc ‹_› ‹_› (by kun_count) ?_; refine wpAny_BinOp ?_; refine Attribute_any_ ?_ (by with_unfolding_all rfl); refine r_loc ‹_› ‹_› (by kun_count) ?_; refine' r_get ?a33x1 ?a33x2 ?a33x3 ?a33x4 ?a33x5 ?a33x6 ?a33x7 ?_; (case a33x1 => assumption); (case a33x2 => assumption); (case a33x4 => kso_lit); (case a33x3 => exact co_GapText); (case a33x5 => kso_lit); (case a33x6 => kic_val); (case a33x7 => with_unfolding_all rfl); refine Attribute_any_ ?_ (by with_unfolding_all rfl); refine r_loc ‹_› ‹_› (by kun_count) ?_; refine' r_get ?a34x1 ?a34x2 ?a34x3 ?a34x4 ?a34x5 ?a34x6 ?a34x7 ?_; (case a34x1 => assumption); (case a34x2 => assumption); (case a34x4 => kso_lit); (case a34x3 => exact co_GapText); (case a34x5 => kso_lit); (case a34x6 => kic_val); (case a34x7 => with_unfolding_all rfl); refine r_sub ?_; refine r_sub ?_; refine r_store ‹_› ‹_› (by kxw_int) ?_; intro _ _; refine x_next ?_; refine x_cons ?_; refine wpAny_If ?_; refine wpAny_isTrue_Compare1 ?_ (by with_unfolding_all rfl); refine r_loc ‹_› ‹_› (by kun_count) ?_; refine r_int ?_; refine r_gt ?_; refine wpAny_truthy_bool ?_; refine if_dec ?_ ?_ <;> intro _; refine x_cons ?_; refine wpAny_Assign_Subscript ?_ (by with_unfolding_all rfl); refine wpAny_BinOp ?_; refine List_ ?_; refine args_cons ?_ (by with_unfolding_all rfl); refine r_int ?_; refine args_nil ?_; refine r_intsI ‹_› (by apply IntsAre.cons; kda_here) (Nat.le_of_ble_eq_true rfl) ?_; intro _ _ _ _ _ _; refine wpAny_BinOp ?_; refine r_loc ‹_› ‹_› (by kun_count) ?_; refine Attribute_any_ ?_ (by with_unfolding_all rfl); refine r_loc ‹_› ‹_› (by kun_count) ?_; refine' r_get ?a35x1 ?a35x2 ?a35x3 ?a35x4 ?a35x5 ?a35x6 ?a35x7 ?_; (case a35x1 => assumption); (case a35x2 => assumption); (case a35x4 => kso_lit); (case a35x3 => exact co_GapText); (case a35x5 => kso_lit); (case a35x6 => kic_val); (case a35x7 => with_unfolding_all rfl); refine r_add ?_; refine r_mul1 ‹_› (by kso_lit) (by kpa_letter) ?_; intro _ _ _ _ _ _; refine Attribute_any_ ?_ (by with_unfolding_all rfl); refine r_loc ‹_› ‹_› (by kun_count) ?_; refine' r_get ?a36x1 ?a36x2 ?a36x3 ?a36x4 ?a36x5 ?a36x6 ?a36x7 ?_; (case a36x1 => assumption); (case a36x2 => assumption); (case a36x4 => kso_lit); (case a36x3 => exact co_GapText); (case a36x5 => kso_lit); (case a36x6 => kic_val); (case a36x7 => with_unfolding_all rfl); refine r_slice ?_; refine wpAny_evalPart_some ?_; refine Attribute_any_ ?_ (by with_unfolding_all rfl); refine r_loc ‹_› ‹_› (by kun_count) ?_; refine' r_get ?a37x1 ?a37x2 ?a37x3 ?a37x4 ?a37x5 ?a37x6 ?a37x7 ?_; (case a37x1 => assumption); (case a37x2 => assumption); (case a37x4 => kso_lit); (case a37x3 => exact co_GapText); (case a37x5 => kso_lit); (case a37x6 => kic_val); (case a37x7 => with_unfolding_all rfl); refine wpAny_evalPart_some ?_; refine Attribute_any_ ?_ (by with_unfolding_all rfl); refine r_loc ‹_› ‹_› (by kun_count) ?_; refine' r_get ?a38x1 ?a38x2 ?a38x3 ?a38x4 ?a38x5 ?a38x6 ?a38x7 ?_; (case a38x1 => assumption); (case a38x2 => assumption); (case a38x4 => kso_lit); (case a38x3 => exact co_GapText); (case a38x5 => kso_lit); (case a38x6 => kic_val); (case a38x7 => with_unfolding_all rfl); refine wpAny_evalPart_none ?_; refine r_slck ‹_› ?_; intro _ _ _ _ _ _; refine r_setslice ‹_› ‹_› (by kxw_text) (by kso_lit) (by kma_look) (by kma_look) (by kso_lit) (by kpa_letter) ?_; intro _ _ _ _; refine x_next ?_; refine x_cons ?_; refine plainObj_wpAny_Assign_Attribute ?_ (by with_unfolding_all rfl); refine wpAny_BinOp ?_; refine wpAny_BinOp ?_; refine Attribute_any_ ?_ (by with_unfolding_all rfl); refine r_loc ‹_› ‹_› (by kun_count) ?_; refine' r_get ?a39x1 ?a39x2 ?a39x3 ?a39x4 ?a39x5 ?a39x6 ?a39x7 ?_; (case a39x1 => assumption); (case a39x2 => assumption); (case a39x4 => kso_lit); (case a39x3 => exact co_GapText); (case a39x5 => kso_lit); (case a39x6 => kic_val); (case a39x7 => with_unfolding_all rfl); refine r_loc ‹_› ‹_› (by kun_count) ?_; refine r_add ?_; refine Attribute_any_ ?_ (by with_unfolding_all rfl); refine r_loc ‹_› ‹_› (by kun_count) ?_; refine' r_get ?a40x1 ?a40x2 ?a40x3 ?a40x4 ?a40x5 ?a40x6 ?a40x7 ?_; (case a40x1 => assumption); (case a40x2 => assumption); (case a40x4 => kso_lit); (case a40x3 => exact co_GapText); (case a40x5 => kso_lit); (case a40x6 => kic_val); (case a40x7 => with_unfolding_all rfl); refine r_add ?_; refine r_loc ‹_› ‹_› (by kun_count) ?_; refine' r_set ?a41x1 ?a41x2 ?a41x3 ?a41x4 ?a41x5 ?a41x6 ?a41x7 ?_; (case a41x1 => assumption); (case a41x2 => assumption); (case a41x4 => kso_lit); (case a41x3 => exact co_GapText); (case a41x5 => kxw_text); (case a41x6 => assumption); (case a41x7 => kctr_letter); intro _ _ _ _; refine x_next ?_; refine wpAny_execs_nil ?_; refine x_next ?_; refine wpAny_execs_nil ?_; refine OpQ.out ‹_› ?_; rotate_left; refine wpAny_execs_nil ?_; refine x_next ?_; refine wpAny_execs_nil ?_; refine OpQ.out ‹_› ?_; rotate_left)
  · have e : b + (x - (b - a)) + 8 = b + ((List.replicate (x - (b - a) + 8).toNat (0 : Int)).length : Int) := by rw [List.length_replicate]; (first | lia | omega)
    refine x_endN0 (by assumption) ⟨rfl, _, _, _, b + (x - (b - a)) + 8, rfl, ⟨⟨_, _, _, by assumption⟩, by assumption, ?_⟩, by rw [e]; exact widen1 ⟨hb.1, hb.2.1, hb.2.2.1⟩ _, ?_⟩
    · rw [put_len, List.length_replicate]; (first | lia | omega)
    · rw [put_len, List.length_replicate]; (first | lia | omega)
  · refine x_endN0 (by assumption) ⟨rfl, _, _, _, b, rfl, ⟨⟨_, _, _, ha⟩, hc, hb⟩, rfl, ?_⟩
    (first | lia | omega)

theorem ins1 {cells : List Int} {a b : Int} (hb : 0 ≤ a ∧ a ≤ b ∧ b ≤ cells.length) {n : List Int} (hn : a + n.length ≤ b) : gtxt (cells.take a.toNat ++ n ++ cells.drop (a + n.length).toNat) (a + n.length) b = (gtxt cells a b).take a.toNat ++ n ++ (gtxt cells a b).drop a.toNat := by
  obtain ⟨i, j, rfl, rfl, hij⟩ := nat3 hb
  replace hb := Int.ofNat_le.mp hb.2.2
  rw [show ((i : Nat) : Int) + (n.length : Int) = ((i + n.length : Nat) : Int) from (Int.natCast_add ..).symm] at hn ⊢
  obtain ⟨d, rfl⟩ := Nat.exists_eq_add_of_le (Int.ofNat_le.mp hn)
  have e2 : (cells.take i).length = i := take_len (Nat.le_trans hij hb)
  have e1 : (cells.take i ++ n).length = i + n.length := by rw [List.length_append, e2]
  rw [Int.toNat_natCast, Int.toNat_natCast, gtxt_nat, gtxt_nat, List.take_left' e1, List.take_left' e2, List.drop_left' e2]
  congr 1
  rw [← List.drop_drop (i := d) (j := i + n.length), List.drop_left' e1, List.drop_drop]
theorem gtxt_length {cells : List Int} {a b : Int} (hb : 0 ≤ a ∧ a ≤ b ∧ b ≤ cells.length) : ((gtxt cells a b).length : Int) = cells.length - b + a := by
  obtain ⟨i, j, rfl, rfl, hij⟩ := nat3 hb
  rw [gtxt_nat, List.length_append, take_len (by (first | lia | omega)), List.length_drop]
  (first | lia | omega)
theorem ginsert_spec (B : Base (A0.heap_1_1 w.params) G mg mb) {t td c n : Addr} {ot oc : Obj} {cells ns : List Int} {a b x : Int} {t4 : Tok} (hx : Inst g t 265 td) (hg : GapO w.params ot oc c cells a b) (hn : IntsAt g n ns) (hxy : 0 ≤ x ∧ x ≤ cells.length - b + a ∧ cells.length ≤ 2 ^ 15 ∧ ns.length ≤ 900) :
    Fn PG w (.ref 234) 12 [.ref t, .int x t4, .ref n] G H g [(td, ot), (c, oc)] (fun v _ W' => v = .none ∧ (Ex5 fun ot' oc' cells' a' b' => An4 (W' = [(td, ot'), (c, oc')]) (GapO w.params ot' oc' c cells' a' b') (gtxt cells' a' b' = (gtxt cells a b).take x.toNat ++ ns ++ (gtxt cells a b).drop x.toNat) ((cells'.length = cells.length ∨ (cells'.length : Int) = (gtxt cells a b).length + ns.length + 8)))) := by
  refine fn_def [("self", .ref t), ("at", .int x t4), ("codes", .ref n)] ["self", "at", "codes"] ["len"] [some (.ref t), some (.int x t4), some (.ref n)] (more := []) B (by k_is) (by k_is) (fun s _ => BindsTo.of_eq rfl) rfl rfl (by decide +kernel) ?_
  intro A h gs dr tk os L R sc S
  have hg' := hg
  obtain ⟨⟨t1, t2, t3, ha⟩, hc, hb⟩ := hg
  (with_reducible refine OpAll.all ?_; intro _ _; refine x_cons ?_; refine x_expr ‹_› ?_ (by with_unfolding_all rfl); refine MethodCall_ ?_ (by with_unfolding_all rfl); refine r_loc ‹_› ‹_› (by kun_count) ?_; refine' r_meth ?a42x1 ?a42x2 ?a42x3 ?a42x4 ?a42x5 ?a42x6 ?_; (case a42x1 => assumption); (case a42x2 => assumption); (case a42x4 => kso_lit); (case a42x3 => exact co_GapText); (case a42x5 => kso_lit); (case a42x6 => exact me_GapText_widen_gap); refine r_cwB ‹_› kp_227 ?_ (by with_unfolding_all rfl) (by with_unfolding_all rfl); refine args_cons ?_ (by with_unfolding_all rfl); refine Call_ ?_ (by with_unfolding_all rfl); refine r_glob ‹_› ‹_› ‹_› (by lks_lit) g_len ?_; refine r_cwbA ?_ (by with_unfolding_all rfl) (by with_unfolding_all rfl); refine args_cons ?_ (by with_unfolding_all rfl); refine r_loc ‹_› ‹_› (by kun_count) ?_; refine args_nil ?_; refine r_lenI (by kso_lit) (by kpa_letter) ?_; refine args_nil ?_; refine r_le ‹_› (by rfl) ?_)
  refine r_call0 S (gwiden_spec B (t := t) hx hg' ⟨by (first | lia | omega), by (first | lia | omega), by (first | lia | omega)⟩) R (by decide) ?_
  rintro _ h1 tk1 g1 _ hle1 S1 ⟨rfl, ot1, oc1, cells1, b1, rfl, hg1, hc1, hw1, hl1, hv1⟩
  have hg1' := hg1
  obtain ⟨⟨v1, v2, v3, ha1⟩, hcc1, hb1⟩ := hg1'
  (with_reducible refine x_next ?_; refine x_cons ?_; refine x_expr ‹_› ?_ (by with_unfolding_all rfl); refine MethodCall_ ?_ (by with_unfolding_all rfl); refine r_loc ‹_› ‹_› (by kun_count) ?_; refine' r_meth ?a43x1 ?a43x2 ?a43x3 ?a43x4 ?a43x5 ?a43x6 ?_; (case a43x1 => assumption); (case a43x2 => assumption); (case a43x4 => kso_lit); (case a43x3 => exact co_GapText); (case a43x5 => kso_lit); (case a43x6 => exact me_GapText_move_gap); refine r_cwB ‹_› kp_220 ?_ (by with_unfolding_all rfl) (by with_unfolding_all rfl); refine args_cons ?_ (by with_unfolding_all rfl); refine r_loc ‹_› ‹_› (by kun_count) ?_; refine args_nil ?_; refine r_le ‹_› (by rfl) ?_)
  refine r_call0 S1 (gmove_spec B (t := t) (hx.le hle1) hg1 (x := x) ?_) R (by decide) ?_
  · (first | lia | omega)
  rintro _ h2 tk2 g2 _ hle2 S2 ⟨rfl, ot2, oc2, cells2, rfl, hg2, hc2, hl2⟩
  obtain ⟨⟨u1, u2, u3, ha2⟩, hcc2, hb2⟩ := hg2
  (with_reducible refine x_next ?_; refine x_cons ?_; refine wpAny_Assign_Subscript ?_ (by with_unfolding_all rfl); refine r_loc ‹_› ‹_› (by kun_count) ?_; refine Attribute_any_ ?_ (by with_unfolding_all rfl); refine r_loc ‹_› ‹_› (by kun_count) ?_; refine' r_get ?a44x1 ?a44x2 ?a44x3 ?a44x4 ?a44x5 ?a44x6 ?a44x7 ?_; (case a44x1 => assumption); (case a44x2 => assumption); (case a44x4 => kso_lit); (case a44x3 => exact co_GapText); (case a44x5 => kso_lit); (case a44x6 => kic_val); (case a44x7 => with_unfolding_all rfl); refine r_slice ?_; refine wpAny_evalPart_some ?_; refine r_loc ‹_› ‹_› (by kun_count) ?_; refine wpAny_evalPart_some ?_; refine wpAny_BinOp ?_; refine r_loc ‹_› ‹_› (by kun_count) ?_; refine Call_ ?_ (by with_unfolding_all rfl); refine r_glob ‹_› ‹_› ‹_› (by lks_lit) g_len ?_; refine r_cwbA ?_ (by with_unfolding_all rfl) (by with_unfolding_all rfl); refine args_cons ?_ (by with_unfolding_all rfl); refine r_loc ‹_› ‹_› (by kun_count) ?_; refine args_nil ?_; refine r_lenI (by kso_lit) (by kpa_letter) ?_; refine r_add ?_; refine wpAny_evalPart_none ?_; refine r_slck ‹_› ?_; intro _ _ _ _ _ _; refine r_setslice ‹_› ‹_› (by kxw_text) (by kso_lit) (by kma_look) (by kma_look) (by kso_lit) (by kpa_letter) ?_; intro _ _ _ _; refine x_next ?_; refine x_cons ?_; refine plainObj_wpAny_Assign_Attribute ?_ (by with_unfolding_all rfl); refine wpAny_BinOp ?_; refine r_loc ‹_› ‹_› (by kun_count) ?_; refine Call_ ?_ (by with_unfolding_all rfl); refine r_glob ‹_› ‹_› ‹_› (by lks_lit) g_len ?_; refine r_cwbA ?_ (by with_unfolding_all rfl) (by with_unfolding_all rfl); refine args_cons ?_ (by with_unfolding_all rfl); refine r_loc ‹_› ‹_› (by kun_count) ?_; refine args_nil ?_; refine r_lenI (by kso_lit) (by kpa_letter) ?_; refine r_add ?_; refine r_loc ‹_› ‹_› (by kun_count) ?_; refine' r_set ?a45x1 ?a45x2 ?a45x3 ?a45x4 ?a45x5 ?a45x6 ?a45x7 ?_; (case a45x1 => assumption); (case a45x2 => assumption); (case a45x4 => kso_lit); (case a45x3 => exact co_GapText); (case a45x5 => kxw_text); (case a45x6 => assumption); (case a45x7 => kctr_letter); intro _ _ _ _; refine x_next ?_; refine wpAny_execs_nil ?_; refine OpQ.out ‹_› ?_)
  have e1 : gtxt cells2 x (x + (b1 - a)) = gtxt cells a b := hc2.trans hc1
  have hx0 := hxy.1
  have hfit : x + ns.length ≤ cells2.length := by (first | lia | omega)
  have ml : (cells2.take x.toNat ++ ns ++ cells2.drop (x + ns.length).toNat).length = cells2.length := by
    obtain ⟨k, rfl⟩ := Int.eq_ofNat_of_zero_le hx0
    rw [Int.toNat_natCast, show (((k : Nat) : Int) + ns.length) = ((k + ns.length : Nat) : Int) by (first | lia | omega), Int.toNat_natCast]
    exact mid_len (Nat.le_add_right _ _) (by (first | lia | omega)) (Nat.add_sub_cancel_left ..).symm
  refine x_endN0 (by assumption) ⟨rfl, _, _, _, x + ns.length, x + (b1 - a), rfl, ⟨⟨_, _, _, by assumption⟩, by assumption, ?_⟩, ?_, ?_⟩
  · rw [ml]; (first | lia | omega)
  · rw [ins1 ⟨hxy.1, by (first | lia | omega), by (first | lia | omega)⟩ (by (first | lia | omega)), e1]
  · rw [ml, hl2]
    have e2 := gtxt_length ⟨hb.1, hb.2.1, hb.2.2.1⟩
    clear hc hc1 hcc1 hcc2 ha ha1 ha2 e1 ml
    (first | lia | omega)

theorem del1 {cells : List Int} {a b x y : Int} (hb : 0 ≤ a ∧ a ≤ b ∧ b ≤ cells.length) (hx : 0 ≤ x ∧ x ≤ a) (hy : a ≤ y) : gtxt cells x (b + y - a) = (gtxt cells a b).take x.toNat ++ (gtxt cells a b).drop y.toNat := by
  obtain ⟨i, j, rfl, rfl, hij⟩ := nat3 hb
  obtain ⟨k, hk⟩ := Int.eq_ofNat_of_zero_le hx.1
  subst hk
  obtain ⟨d, hd⟩ := Int.le.dest hy
  subst hd
  replace hb := Int.ofNat_le.mp hb.2.2
  replace hx := Int.ofNat_le.mp hx.2
  have e2 : (cells.take i).length = i := take_len (Nat.le_trans hij hb)
  rw [show ((j : Nat) : Int) + ((i : Nat) + (d : Nat) : Int) - ((i : Nat) : Int) = ((j + d : Nat) : Int) by (first | lia | omega), show (((i : Nat) : Int) + ((d : Nat) : Int)) = ((i + d : Nat) : Int) from (Int.natCast_add ..).symm, Int.toNat_natCast, Int.toNat_natCast, gtxt_nat, gtxt_nat, List.take_append_of_le_length (by rw [e2]; exact hx), List.take_take, Nat.min_eq_left hx, ← List.drop_drop (i := d) (j := i), List.drop_left' e2, List.drop_drop]
theorem gdelete_spec (B : Base (A0.heap_1_1 w.params) G mg mb) {t td c : Addr} {ot oc : Obj} {cells : List Int} {a b x y : Int} {t4 t5 : Tok} (hx : Inst g t 265 td) (hg : GapO w.params ot oc c cells a b) (hxy : 0 ≤ x ∧ x ≤ y ∧ y ≤ cells.length - b + a) :
    Fn PG w (.ref 241) 12 [.ref t, .int x t4, .int y t5] G H g [(td, ot), (c, oc)] (fun v g' W' => Ex6 fun r ot' oc' cells' a' b' => An6 (v = .ref r) (IntsAt g' r (sl (gtxt cells a b) x y)) (W' = [(td, ot'), (c, oc')]) (GapO w.params ot' oc' c cells' a' b') (gtxt cells' a' b' = (gtxt cells a b).take x.toNat ++ (gtxt cells a b).drop y.toNat) (cells'.length = cells.length)) := by
  refine fn_def [("self", .ref t), ("start", .int x t4), ("end", .int y t5)] ["self", "start", "end", "gone"] [] [some (.ref t), some (.int x t4), some (.int y t5), none] (more := ["gone"]) B (by k_is) (by k_is) (fun s _ => BindsTo.of_eq rfl) rfl rfl (by decide +kernel) ?_
  intro A h gs dr tk os L R sc S
  have hg' := hg
  obtain ⟨⟨t1, t2, t3, ha⟩, hc, hb⟩ := hg
  (with_reducible refine OpAll.all ?_; intro _ _; refine x_cons ?_; refine x_assign ?_ (by with_unfolding_all rfl); refine MethodCall_ ?_ (by with_unfolding_all rfl); refine r_loc ‹_› ‹_› (by kun_count) ?_; refine' r_meth ?a46x1 ?a46x2 ?a46x3 ?a46x4 ?a46x5 ?a46x6 ?_; (case a46x1 => assumption); (case a46x2 => assumption); (case a46x4 => kso_lit); (case a46x3 => exact co_GapText); (case a46x5 => kso_lit); (case a46x6 => exact me_GapText_codes); refine r_cwB ‹_› kp_213 ?_ (by with_unfolding_all rfl) (by with_unfolding_all rfl); refine args_cons ?_ (by with_unfolding_all rfl); refine r_loc ‹_› ‹_› (by kun_count) ?_; refine args_cons ?_ (by with_unfolding_all rfl); refine r_loc ‹_› ‹_› (by kun_count) ?_; refine args_nil ?_; refine r_le ‹_› (by rfl) ?_)
  refine r_call0 S (gcodes_spec B (t := t) hx hg' hxy) R (by decide) ?_
  rintro _ h1 tk1 g1 _ hle1 S1 ⟨rfl, r, rfl, hr⟩
  (with_reducible refine r_store ‹_› ‹_› (by kxw_int) ?_; intro _ _; refine x_next ?_; refine x_cons ?_; refine wpAny_If ?_; refine wpAny_isTrue_Compare1 ?_ (by with_unfolding_all rfl); refine r_loc ‹_› ‹_› (by kun_count) ?_; refine Attribute_any_ ?_ (by with_unfolding_all rfl); refine r_loc ‹_› ‹_› (by kun_count) ?_; refine' r_get ?a47x1 ?a47x2 ?a47x3 ?a47x4 ?a47x5 ?a47x6 ?a47x7 ?_; (case a47x1 => assumption); (case a47x2 => assumption); (case a47x4 => kso_lit); (case a47x3 => exact co_GapText); (case a47x5 => kso_lit); (case a47x6 => kic_val); (case a47x7 => with_unfolding_all rfl); refine r_lt ?_; refine wpAny_truthy_bool ?_; refine if_dec ?_ ?_ <;> intro _; refine x_cons ?_; refine x_expr ‹_› ?_ (by with_unfolding_all rfl); refine MethodCall_ ?_ (by with_unfolding_all rfl); refine r_loc ‹_› ‹_› (by kun_count) ?_; refine' r_meth ?a48x1 ?a48x2 ?a48x3 ?a48x4 ?a48x5 ?a48x6 ?_; (case a48x1 => assumption); (case a48x2 => assumption); (case a48x4 => kso_lit); (case a48x3 => exact co_GapText); (case a48x5 => kso_lit); (case a48x6 => exact me_GapText_move_gap); refine r_cwB ‹_› kp_220 ?_ (by with_unfolding_all rfl) (by with_unfolding_all rfl); refine args_cons ?_ (by with_unfolding_all rfl); refine r_loc ‹_› ‹_› (by kun_count) ?_; refine args_nil ?_; refine r_le ‹_› (by rfl) ?_; rotate_left; refine wpAny_execs_nil ?_; refine x_next ?_; refine x_cons ?_; refine wpAny_If ?_; refine wpAny_isTrue_Compare1 ?_ (by with_unfolding_all rfl); refine r_loc ‹_› ‹_› (by kun_count) ?_; refine Attribute_any_ ?_ (by with_unfolding_all rfl); refine r_loc ‹_› ‹_› (by kun_count) ?_; refine' r_get ?a49x1 ?a49x2 ?a49x3 ?a49x4 ?a49x5 ?a49x6 ?a49x7 ?_; (case a49x1 => assumption); (case a49x2 => assumption); (case a49x4 => kso_lit); (case a49x3 => exact co_GapText); (case a49x5 => kso_lit); (case a49x6 => kic_val); (case a49x7 => with_unfolding_all rfl); refine r_gt ?_; refine wpAny_truthy_bool ?_; refine if_dec ?_ ?_ <;> intro _; refine x_cons ?_; refine x_expr ‹_› ?_ (by with_unfolding_all rfl); refine MethodCall_ ?_ (by with_unfolding_all rfl); refine r_loc ‹_› ‹_› (by kun_count) ?_; refine' r_meth ?a50x1 ?a50x2 ?a50x3 ?a50x4 ?a50x5 ?a50x6 ?_; (case a50x1 => assumption); (case a50x2 => assumption); (case a50x4 => kso_lit); (case a50x3 => exact co_GapText); (case a50x5 => kso_lit); (case a50x6 => exact me_GapText_move_gap); refine r_cwB ‹_› kp_220 ?_ (by with_unfolding_all rfl) (by with_unfolding_all rfl); refine args_cons ?_ (by with_unfolding_all rfl); refine r_loc ‹_› ‹_› (by kun_count) ?_; refine args_nil ?_; refine r_le ‹_› (by rfl) ?_; rotate_left; refine wpAny_execs_nil ?_; refine x_next ?_; refine x_cons ?_; refine plainObj_wpAny_Assign_Attribute ?_ (by with_unfolding_all rfl); refine wpAny_BinOp ?_; refine wpAny_BinOp ?_; refine Attribute_any_ ?_ (by with_unfolding_all rfl); refine r_loc ‹_› ‹_› (by kun_count) ?_; refine' r_get ?a51x1 ?a51x2 ?a51x3 ?a51x4 ?a51x5 ?a51x6 ?a51x7 ?_; (case a51x1 => assumption); (case a51x2 => assumption); (case a51x4 => kso_lit); (case a51x3 => exact co_GapText); (case a51x5 => kso_lit); (case a51x6 => kic_val); (case a51x7 => with_unfolding_all rfl); refine r_loc ‹_› ‹_› (by kun_count) ?_; refine r_add ?_; refine Attribute_any_ ?_ (by with_unfolding_all rfl); refine r_loc ‹_› ‹_› (by kun_count) ?_; refine' r_get ?a52x1 ?a52x2 ?a52x3 ?a52x4 ?a52x5 ?a52x6 ?a52x7 ?_; (case a52x1 => assumption); (case a52x2 => assumption); (case a52x4 => kso_lit); (case a52x3 => exact co_GapText); (case a52x5 => kso_lit); (case a52x6 => kic_val); (case a52x7 => with_unfolding_all rfl); refine r_sub ?_; refine r_loc ‹_› ‹_› (by kun_count) ?_; refine' r_set ?a53x1 ?a53x2 ?a53x3 ?a53x4 ?a53x5 ?a53x6 ?a53x7 ?_; (case a53x1 => assumption); (case a53x2 => assumption); (case a53x4 => kso_lit); (case a53x3 => exact co_GapText); (case a53x5 => kxw_text); (case a53x6 => assumption); (case a53x7 => kctr_letter); intro _ _ _ _; refine x_next ?_; refine x_cons ?_; refine plainObj_wpAny_Assign_Attribute ?_ (by with_unfolding_all rfl); refine r_loc ‹_› ‹_› (by kun_count) ?_; refine r_loc ‹_› ‹_› (by kun_count) ?_; refine' r_set ?a54x1 ?a54x2 ?a54x3 ?a54x4 ?a54x5 ?a54x6 ?a54x7 ?_; (case a54x1 => assumption); (case a54x2 => assumption); (case a54x4 => kso_lit); (case a54x3 => exact co_GapText); (case a54x5 => kxw_text); (case a54x6 => assumption); (case a54x7 => kctr_letter); intro _ _ _ _; refine x_next ?_; refine x_cons ?_; refine wpAny_Return_some ?_; refine r_loc ‹_› ‹_› (by kun_count) ?_; refine x_ret ?_; refine OpQ.out ‹_› ?_; rotate_left)
  · refine r_call0 (by assumption) (gmove_spec B (t := t) (hx.le hle1) hg' (x := y) ⟨by (first | lia | omega), by (first | lia | omega)⟩) R (by decide) ?_
    rintro _ h2 tk2 g2 _ hle2 S2 ⟨rfl, ot2, oc2, cells2, rfl, hg2, hc2, hl2⟩
    obtain ⟨⟨u1, u2, u3, ha2⟩, hcc2, hb2⟩ := hg2
    (with_reducible refine x_next ?_; refine wpAny_execs_nil ?_; refine x_next ?_; refine x_cons ?_; refine wpAny_If ?_; refine wpAny_isTrue_Compare1 ?_ (by with_unfolding_all rfl); refine r_loc ‹_› ‹_› (by kun_count) ?_; refine Attribute_any_ ?_ (by with_unfolding_all rfl); refine r_loc ‹_› ‹_› (by kun_count) ?_; refine' r_get ?a55x1 ?a55x2 ?a55x3 ?a55x4 ?a55x5 ?a55x6 ?a55x7 ?_; (case a55x1 => assumption); (case a55x2 => assumption); (case a55x4 => kso_lit); (case a55x3 => exact co_GapText); (case a55x5 => kso_lit); (case a55x6 => kic_val); (case a55x7 => with_unfolding_all rfl); refine r_gt ?_; refine wpAny_truthy_bool ?_; refine if_dec ?_ ?_ <;> intro _; refine x_cons ?_; refine x_expr ‹_› ?_ (by with_unfolding_all rfl); refine MethodCall_ ?_ (by with_unfolding_all rfl); refine r_loc ‹_› ‹_› (by kun_count) ?_; refine' r_meth ?a56x1 ?a56x2 ?a56x3 ?a56x4 ?a56x5 ?a56x6 ?_; (case a56x1 => assumption); (case a56x2 => assumption); (case a56x4 => kso_lit); (case a56x3 => exact co_GapText); (case a56x5 => kso_lit); (case a56x6 => exact me_GapText_move_gap); refine r_cwB ‹_› kp_220 ?_ (by with_unfolding_all rfl) (by with_unfolding_all rfl); refine args_cons ?_ (by with_unfolding_all rfl); refine r_loc ‹_› ‹_› (by kun_count) ?_; refine args_nil ?_; refine r_le ‹_› (by rfl) ?_; rotate_left; refine wpAny_execs_nil ?_; refine x_next ?_; refine x_cons ?_; refine plainObj_wpAny_Assign_Attribute ?_ (by with_unfolding_all rfl); refine wpAny_BinOp ?_; refine wpAny_BinOp ?_; refine Attribute_any_ ?_ (by with_unfolding_all rfl); refine r_loc ‹_› ‹_› (by kun_count) ?_; refine' r_get ?a57x1 ?a57x2 ?a57x3 ?a57x4 ?a57x5 ?a57x6 ?a57x7 ?_; (case a57x1 => assumption); (case a57x2 => assumption); (case a57x4 => kso_lit); (case a57x3 => exact co_GapText); (case a57x5 => kso_lit); (case a57x6 => kic_val); (case a57x7 => with_unfolding_all rfl); refine r_loc ‹_› ‹_› (by kun_count) ?_; refine r_add ?_; refine Attribute_any_ ?_ (by with_unfolding_all rfl); refine r_loc ‹_› ‹_› (by kun_count) ?_; refine' r_get ?a58x1 ?a58x2 ?a58x3 ?a58x4 ?a58x5 ?a58x6 ?a58x7 ?_; (case a58x1 => assumption); (case a58x2 => assumption); (case a58x4 => kso_lit); (case a58x3 => exact co_GapText); (case a58x5 => kso_lit); (case a58x6 => kic_val); (case a58x7 => with_unfolding_all rfl); refine r_sub ?_; refine r_loc ‹_› ‹_› (by kun_count) ?_; refine' r_set ?a59x1 ?a59x2 ?a59x3 ?a59x4 ?a59x5 ?a59x6 ?a59x7 ?_; (case a59x1 => assumption); (case a59x2 => assumption); (case a59x4 => kso_lit); (case a59x3 => exact co_GapText); (case a59x5 => kxw_text); (case a59x6 => assumption); (case a59x7 => kctr_letter); intro _ _ _ _; refine x_next ?_; refine x_cons ?_; refine plainObj_wpAny_Assign_Attribute ?_ (by with_unfolding_all rfl); refine r_loc ‹_› ‹_› (by kun_count) ?_; refine r_loc ‹_› ‹_› (by kun_count) ?_; refine' r_set ?a60x1 ?a60x2 ?a60x3 ?a60x4 ?a60x5 ?a60x6 ?a60x7 ?_; (case a60x1 => assumption); (case a60x2 => assumption); (case a60x4 => kso_lit); (case a60x3 => exact co_GapText); (case a60x5 => kxw_text); (case a60x6 => assumption); (case a60x7 => kctr_letter); intro _ _ _ _; refine x_next ?_; refine x_cons ?_; refine wpAny_Return_some ?_; refine r_loc ‹_› ‹_› (by kun_count) ?_; refine x_ret ?_; refine OpQ.out ‹_› ?_; rotate_left)
    · exact absurd (show y < x by assumption) (by (first | lia | omega))
    · refine x_end0 (by assumption) ⟨r, _, _, cells2, x, y + (b - a) + y - y, rfl, by kun_lit, rfl, ⟨⟨_, _, _, by assumption⟩, hcc2, by (first | lia | omega)⟩, ?_, hl2⟩
      rw [del1 (a := y) ⟨by (first | lia | omega), by (first | lia | omega), by (first | lia | omega)⟩ ⟨by (first | lia | omega), by (first | lia | omega)⟩ (by (first | lia | omega)), hc2]
  · refine r_call0 (by assumption) (gmove_spec B (t := t) (hx.le hle1) hg' (x := x) ⟨by (first | lia | omega), by (first | lia | omega)⟩) R (by decide) ?_
    rintro _ h2 tk2 g2 _ hle2 S2 ⟨rfl, ot2, oc2, cells2, rfl, hg2, hc2, hl2⟩
    obtain ⟨⟨u1, u2, u3, ha2⟩, hcc2, hb2⟩ := hg2
    (with_reducible refine x_next ?_; refine wpAny_execs_nil ?_; refine x_next ?_; refine x_cons ?_; refine plainObj_wpAny_Assign_Attribute ?_ (by with_unfolding_all rfl); refine wpAny_BinOp ?_; refine wpAny_BinOp ?_; refine Attribute_any_ ?_ (by with_unfolding_all rfl); refine r_loc ‹_› ‹_› (by kun_count) ?_; refine' r_get ?a61x1 ?a61x2 ?a61x3 ?a61x4 ?a61x5 ?a61x6 ?a61x7 ?_; (case a61x1 => assumption); (case a61x2 => assumption); (case a61x4 => kso_lit); (case a61x3 => exact co_GapText); (case a61x5 => kso_lit); (case a61x6 => kic_val); (case a61x7 => with_unfolding_all rfl); refine r_loc ‹_› ‹_› (by kun_count) ?_; refine r_add ?_; refine Attribute_any_ ?_ (by with_unfolding_all rfl); refine r_loc ‹_› ‹_› (by kun_count) ?_; refine' r_get ?a62x1 ?a62x2 ?a62x3 ?a62x4 ?a62x5 ?a62x6 ?a62x7 ?_; (case a62x1 => assumption); (case a62x2 => assumption); (case a62x4 => kso_lit); (case a62x3 => exact co_GapText); (case a62x5 => kso_lit); (case a62x6 => kic_val); (case a62x7 => with_unfolding_all rfl); refine r_sub ?_; refine r_loc ‹_› ‹_› (by kun_count) ?_; refine' r_set ?a63x1 ?a63x2 ?a63x3 ?a63x4 ?a63x5 ?a63x6 ?a63x7 ?_; (case a63x1 => assumption); (case a63x2 => assumption); (case a63x4 => kso_lit); (case a63x3 => exact co_GapText); (case a63x5 => kxw_text); (case a63x6 => assumption); (case a63x7 => kctr_letter); intro _ _ _ _; refine x_next ?_; refine x_cons ?_; refine plainObj_wpAny_Assign_Attribute ?_ (by with_unfolding_all rfl); refine r_loc ‹_› ‹_› (by kun_count) ?_; refine r_loc ‹_› ‹_› (by kun_count) ?_; refine' r_set ?a64x1 ?a64x2 ?a64x3 ?a64x4 ?a64x5 ?a64x6 ?a64x7 ?_; (case a64x1 => assumption); (case a64x2 => assumption); (case a64x4 => kso_lit); (case a64x3 => exact co_GapText); (case a64x5 => kxw_text); (case a64x6 => assumption); (case a64x7 => kctr_letter); intro _ _ _ _; refine x_next ?_; refine x_cons ?_; refine wpAny_Return_some ?_; refine r_loc ‹_› ‹_› (by kun_count) ?_; refine x_ret ?_; refine OpQ.out ‹_› ?_)
    refine x_end0 (by assumption) ⟨r, _, _, cells2, x, x + (b - a) + y - x, rfl, by kun_lit, rfl, ⟨⟨_, _, _, by assumption⟩, hcc2, by (first | lia | omega)⟩, ?_, hl2⟩
    rw [del1 (a := x) ⟨by (first | lia | omega), by (first | lia | omega), by (first | lia | omega)⟩ ⟨by (first | lia | omega), by (first | lia | omega)⟩ (by (first | lia | omega)), hc2]
  · refine x_end0 (by assumption) ⟨r, _, _, cells, x, b + y - a, rfl, by kun_lit, rfl, ⟨⟨_, _, _, by assumption⟩, hc, by (first | lia | omega)⟩, ?_, rfl⟩
    rw [del1 ⟨by (first | lia | omega), by (first | lia | omega), by (first | lia | omega)⟩ ⟨by (first | lia | omega), by (first | lia | omega)⟩ (by (first | lia | omega))]
end
section
variable {w : World} {G H g : Heap} {mg mb : Str → Option Value}
theorem att0 {P : Params} : AttrsO P (dictOf [] 0) [] [] := ⟨[], 0, rfl, .nil⟩
theorem ginit_spec (B : Base (A0.heap_1_1 w.params) G mg mb) {x dx r : Addr} {t : Tok} (hx : Inst g x 265 dx) (hr : IntsAt g r []) :
    Fn PG w (.ref 192) 10 [.ref x, .ref r, .int 8 t] G H g [(dx, dictOf [] 0)] (fun v _ W' => v = .none ∧ (Ex3 fun ot c oc => An2 (W' = [(dx, ot), (c, oc)]) (GapO w.params ot oc c (List.replicate 8 0) 0 8))) := by
  refine fn_def [("self", .ref x), ("codes", .ref r), ("room", .int 8 t)] ["self", "codes", "room"] ["list", "len"] [some (.ref x), some (.ref r), some (.int 8 t)] (more := []) B (by k_is) (by k_is) (fun s _ => BindsTo.of_eq rfl) rfl rfl (by decide +kernel) ?_
  intro A h gs dr tk os L R sc S
  have h0 := att0 (P := w.params)
  have mu : MutMark := ⟨trivial⟩
  (with_reducible refine OpAll.all ?_; intro _ _; refine x_cons ?_; refine plainObj_wpAny_Assign_Attribute ?_ (by with_unfolding_all rfl); refine r_loc ‹_› ‹_› (by kun_count) ?_; refine r_loc ‹_› ‹_› (by kun_count) ?_; refine' r_setN ?a65x1 ?a65x2 ?a65x3 ?a65x4 ?a65x5 ?a65x6 ?a65x7 ?_; (case a65x1 => assumption); (case a65x2 => assumption); (case a65x4 => kso_lit); (case a65x3 => exact co_GapText); (case a65x5 => kxw_text); (case a65x6 => assumption); (case a65x7 => with_unfolding_all rfl); intro _ _ hN _; (try simp only [List.nil_append, List.cons_append] at hN); refine x_next ?_; refine x_cons ?_; refine plainObj_wpAny_Assign_Attribute ?_ (by with_unfolding_all rfl); refine wpAny_BinOp ?_; refine Call_ ?_ (by with_unfolding_all rfl); refine r_glob ‹_› ‹_› ‹_› (by lks_lit) g_list ?_; refine r_cwt ?_ (by with_unfolding_all rfl) (by with_unfolding_all rfl); refine args_cons ?_ (by with_unfolding_all rfl); refine r_loc ‹_› ‹_› (by kun_count) ?_; refine args_nil ?_; refine r_listOfI ‹_› (by kso_lit) (by kpa_letter) ?_; intro _ _ _ _ _ _; refine wpAny_BinOp ?_; refine List_ ?_; refine args_cons ?_ (by with_unfolding_all rfl); refine r_int ?_; refine args_nil ?_; refine r_intsI ‹_› (by apply IntsAre.cons; kda_here) (Nat.le_of_ble_eq_true rfl) ?_; intro _ _ _ _ _ _; refine r_loc ‹_› ‹_› (by kun_count) ?_; refine r_mul1 ‹_› (by kso_lit) (by kpa_letter) ?_; intro _ _ _ _ _ _; refine r_addMut ‹_› ‹_› (by kso_lit) (by kso_lit) (by kpa_letter) ?_; intro _ _ _ _ _; refine r_loc ‹_› ‹_› (by kun_count) ?_; refine' r_setN ?a66x1 ?a66x2 ?a66x3 ?a66x4 ?a66x5 ?a66x6 ?a66x7 ?_; (case a66x1 => assumption); (case a66x2 => assumption); (case a66x4 => kso_lit); (case a66x3 => exact co_GapText); (case a66x5 => kxw_text); (case a66x6 => assumption); (case a66x7 => with_unfolding_all rfl); intro _ _ hN _; (try simp only [List.nil_append, List.cons_append] at hN); refine x_next ?_; refine x_cons ?_; refine plainObj_wpAny_Assign_Attribute ?_ (by with_unfolding_all rfl); refine Call_ ?_ (by with_unfolding_all rfl); refine r_glob ‹_› ‹_› ‹_› (by lks_lit) g_len ?_; refine r_cwbA ?_ (by with_unfolding_all rfl) (by with_unfolding_all rfl); refine args_cons ?_ (by with_unfolding_all rfl); refine r_loc ‹_› ‹_› (by kun_count) ?_; refine args_nil ?_; refine r_lenI (by kso_lit) (by kpa_letter) ?_; refine r_loc ‹_› ‹_› (by kun_count) ?_; refine' r_setN ?a67x1 ?a67x2 ?a67x3 ?a67x4 ?a67x5 ?a67x6 ?a67x7 ?_; (case a67x1 => assumption); (case a67x2 => assumption); (case a67x4 => kso_lit); (case a67x3 => exact co_GapText); (case a67x5 => kxw_text); (case a67x6 => assumption); (case a67x7 => with_unfolding_all rfl); intro _ _ hN _; (try simp only [List.nil_append, List.cons_append] at hN); refine x_next ?_; refine x_cons ?_; refine plainObj_wpAny_Assign_Attribute ?_ (by with_unfolding_all rfl); refine wpAny_BinOp ?_; refine Call_ ?_ (by with_unfolding_all rfl); refine r_glob ‹_› ‹_› ‹_› (by lks_lit) g_len ?_; refine r_cwbA ?_ (by with_unfolding_all rfl) (by with_unfolding_all rfl); refine args_cons ?_ (by with_unfolding_all rfl); refine r_loc ‹_› ‹_› (by kun_count) ?_; refine args_nil ?_; refine r_lenI (by kso_lit) (by kpa_letter) ?_; refine r_loc ‹_› ‹_› (by kun_count) ?_; refine r_add ?_; refine r_loc ‹_› ‹_› (by kun_count) ?_; refine' r_setN ?a68x1 ?a68x2 ?a68x3 ?a68x4 ?a68x5 ?a68x6 ?a68x7 ?_; (case a68x1 => assumption); (case a68x2 => assumption); (case a68x4 => kso_lit); (case a68x3 => exact co_GapText); (case a68x5 => kxw_text); (case a68x6 => assumption); (case a68x7 => with_unfolding_all rfl); intro _ _ hN _; (try simp only [List.nil_append, List.cons_append] at hN); refine x_next ?_; refine wpAny_execs_nil ?_; refine OpQ.out ‹_› ?_)
  refine x_endN (by assumption) (W := [(_, _), (_, _)]) (rest := []) (.swap _ _ _) ⟨rfl, _, _, _, rfl, ⟨_, _, _, by assumption⟩, by assumption, ?_⟩
  decide
theorem minit_spec (B : Base (A0.heap_1_1 w.params) G mg mb) {x dx : Addr} {n : Int} {t : Tok} {b : Bool} (hx : Inst g x 342 dx) :
    Fn PG w (.ref 318) 10 [.ref x, .int n t, .bool b] G H g [(dx, dictOf [] 0)] (fun v _ W' => v = .none ∧ (Ex3 fun o t1 t2 => An2 (W' = [(dx, o)]) (AttrsO w.params o ["number", "advances", "buffer", "position"] [.int n t1, .bool b, .none, .int 0 t2]))) := by
  refine fn_def [("self", .ref x), ("number", .int n t), ("advances", .bool b)] ["self", "number", "advances"] [] [some (.ref x), some (.int n t), some (.bool b)] (more := []) B (by k_is) (by k_is) (fun s _ => BindsTo.of_eq rfl) rfl rfl (by decide +kernel) ?_
  intro A h gs dr tk os L R sc S
  have h0 := att0 (P := w.params)
  (with_reducible refine OpAll.all ?_; intro _ _; refine x_cons ?_; refine plainObj_wpAny_Assign_Attribute ?_ (by with_unfolding_all rfl); refine r_loc ‹_› ‹_› (by kun_count) ?_; refine r_loc ‹_› ‹_› (by kun_count) ?_; refine' r_setN ?a69x1 ?a69x2 ?a69x3 ?a69x4 ?a69x5 ?a69x6 ?a69x7 ?_; (case a69x1 => assumption); (case a69x2 => assumption); (case a69x4 => kso_lit); (case a69x3 => exact co_Marker); (case a69x5 => kxw_text); (case a69x6 => assumption); (case a69x7 => with_unfolding_all rfl); intro _ _ hN _; (try simp only [List.nil_append, List.cons_append] at hN); refine x_next ?_; refine x_cons ?_; refine plainObj_wpAny_Assign_Attribute ?_ (by with_unfolding_all rfl); refine r_loc ‹_› ‹_› (by kun_count) ?_; refine r_loc ‹_› ‹_› (by kun_count) ?_; refine' r_setN ?a70x1 ?a70x2 ?a70x3 ?a70x4 ?a70x5 ?a70x6 ?a70x7 ?_; (case a70x1 => assumption); (case a70x2 => assumption); (case a70x4 => kso_lit); (case a70x3 => exact co_Marker); (case a70x5 => kxw_text); (case a70x6 => assumption); (case a70x7 => with_unfolding_all rfl); intro _ _ hN _; (try simp only [List.nil_append, List.cons_append] at hN); refine x_next ?_; refine x_cons ?_; refine plainObj_wpAny_Assign_Attribute ?_ (by with_unfolding_all rfl); refine wpAny_Constant_none ?_; refine r_loc ‹_› ‹_› (by kun_count) ?_; refine' r_setN ?a71x1 ?a71x2 ?a71x3 ?a71x4 ?a71x5 ?a71x6 ?a71x7 ?_; (case a71x1 => assumption); (case a71x2 => assumption); (case a71x4 => kso_lit); (case a71x3 => exact co_Marker); (case a71x5 => kxw_text); (case a71x6 => assumption); (case a71x7 => with_unfolding_all rfl); intro _ _ hN _; (try simp only [List.nil_append, List.cons_append] at hN); refine x_next ?_; refine x_cons ?_; refine plainObj_wpAny_Assign_Attribute ?_ (by with_unfolding_all rfl); refine r_int ?_; refine r_loc ‹_› ‹_› (by kun_count) ?_; refine' r_setN ?a72x1 ?a72x2 ?a72x3 ?a72x4 ?a72x5 ?a72x6 ?a72x7 ?_; (case a72x1 => assumption); (case a72x2 => assumption); (case a72x4 => kso_lit); (case a72x3 => exact co_Marker); (case a72x5 => kxw_text); (case a72x6 => assumption); (case a72x7 => with_unfolding_all rfl); intro _ _ hN _; (try simp only [List.nil_append, List.cons_append] at hN); refine x_next ?_; refine wpAny_execs_nil ?_; refine OpQ.out ‹_› ?_)
  exact x_endN0 (by assumption) ⟨rfl, _, _, _, rfl, by assumption⟩
theorem msinit_spec (B : Base (A0.heap_1_1 w.params) G mg mb) {x dx : Addr} (hx : Inst g x 410 dx) :
    Fn PG w (.ref 358) 10 [.ref x] G H g [(dx, dictOf [] 0)] (fun v _ W' => v = .none ∧ (Ex3 fun o rw orw => An3 (W' = [(dx, o), (rw, orw)]) (AttrsO w.params o ["rows"] [.ref rw]) (DctO PG w rw orw []))) := by
  refine fn_def [("self", .ref x)] ["self"] [] [some (.ref x)] (more := []) B (by k_is) (by k_is) (fun s _ => BindsTo.of_eq rfl) rfl rfl (by decide +kernel) ?_
  intro A h gs dr tk os L R sc S
  have h0 := att0 (P := w.params)
  (with_reducible refine OpAll.all ?_; intro _ _; refine x_cons ?_; refine plainObj_wpAny_Assign_Attribute ?_ (by with_unfolding_all rfl))
  refine r_dict0 S B ?_
  intro rw h1 orw hd S1
  (with_reducible refine r_loc ‹_› ‹_› (by kun_count) ?_; refine' r_setN ?a73x1 ?a73x2 ?a73x3 ?a73x4 ?a73x5 ?a73x6 ?a73x7 ?_; (case a73x1 => assumption); (case a73x2 => assumption); (case a73x4 => kso_lit); (case a73x3 => exact co_Markers); (case a73x5 => kxw_text); (case a73x6 => assumption); (case a73x7 => with_unfolding_all rfl); intro _ _ hN _; (try simp only [List.nil_append, List.cons_append] at hN); refine x_next ?_; refine wpAny_execs_nil ?_; refine OpQ.out ‹_› ?_)
  exact x_endN (by assumption) (W := [(_, _), (_, _)]) (rest := []) (.swap _ _ _) ⟨rfl, _, _, _, rfl, by assumption, by assumption⟩
theorem numbers_spec (B : Base (A0.heap_1_1 w.params) G mg mb) {x dx rw : Addr} {orw : Obj} {ms : List Mk} (hx : Inst g x 410 dx) (ha : AttrsAt w.params g dx ["rows"] [.ref rw]) (hd : DctO PG w rw orw (MkTab ms)) (asc : (ms.map (·.num)).Pairwise (· < ·)) (hz : ms.length < 64) :
    Fn PG w (.ref 365) 10 [.ref x] G H g [(rw, orw)] (fun v g' W' => Ex1 fun r => An3 (v = .ref r) (W' = [(rw, orw)]) (IntsAt g' r (ms.map (·.num)))) := by
  refine fn_def [("self", .ref x)] ["self"] ["sorted"] [some (.ref x)] (more := []) B (by k_is) (by k_is) (fun s _ => BindsTo.of_eq rfl) rfl rfl (by decide +kernel) ?_
  intro A h gs dr tk os L R sc S
  (with_reducible refine OpAll.all ?_; intro _ _; refine x_cons ?_; refine wpAny_Return_some ?_; refine Call_ ?_ (by with_unfolding_all rfl); refine r_glob ‹_› ‹_› ‹_› (by lks_lit) g_sorted ?_; refine r_cwbA ?_ (by with_unfolding_all rfl) (by with_unfolding_all rfl); refine args_cons ?_ (by with_unfolding_all rfl); refine Attribute_any_ ?_ (by with_unfolding_all rfl); refine r_loc ‹_› ‹_› (by kun_count) ?_; refine' r_get ?a74x1 ?a74x2 ?a74x3 ?a74x4 ?a74x5 ?a74x6 ?a74x7 ?_; (case a74x1 => assumption); (case a74x2 => assumption); (case a74x4 => kso_lit); (case a74x3 => exact co_Markers); (case a74x5 => kso_lit); (case a74x6 => kic_val); (case a74x7 => with_unfolding_all rfl); refine args_nil ?_)
  refine r_sortedD R (by assumption) (by lks_lit) hd (by rw [MkTab.keys]; exact asc) (by simpa [MkTab] using hz) ?_
  intro r h1 g1 tk1 hle hr S1
  rw [MkTab.keys] at hr
  (with_reducible refine x_ret ?_; refine OpQ.out ‹_› ?_)
  exact x_end0 (by assumption) ⟨_, rfl, rfl, hr⟩
theorem inserted_spec (B : Base (A0.heap_1_1 w.params) G mg mb) {b x dx rw : Addr} {orw : Obj} {ms : List Mk} {marks : List (Addr × Obj)} {p q : Int} {t1 t2 : Tok} (hx : Inst g x 410 dx) (ha : AttrsAt w.params g dx ["rows"] [.ref rw]) (hd : DctO PG w rw orw (MkTab ms)) (asc : (ms.map (·.num)).Pairwise (· < ·)) (hz : ms.length < 64) (hi : ∀ m ∈ ms, Inst g m.x 342 m.dx) (hm : MksO w.params b ms marks) (hp : ∀ m ∈ ms, m.pos < p ∨ p < m.pos) :
    Fn PG w (.ref 393) 12 [.ref x, .int p t1, .int q t2, .bool false] G H g ((rw, orw) :: marks) (fun _ _ W' => Ex1 fun marks' => An2 (W' = (rw, orw) :: marks') (MksO w.params b (ms.map fun m => m.to (if p < m.pos then m.pos + q - p else m.pos)) marks')) := by
  refine fn_def [("self", .ref x), ("start", .int p t1), ("end", .int q t2), ("is_before", .bool false)] ["self", "start", "end", "is_before", "number", "marker"] [] [some (.ref x), some (.int p t1), some (.int q t2), some (.bool false), none, none] (more := ["number", "marker"]) B (by k_is) (by k_is) (fun s _ => BindsTo.of_eq rfl) rfl rfl (by decide +kernel) ?_
  intro A h gs dr tk os L R sc S
  (with_reducible refine OpAll.all ?_; intro _ _; refine x_cons ?_; refine x_for ?_ (by intro _; with_unfolding_all rfl); refine MethodCall_ ?_ (by with_unfolding_all rfl); refine r_loc ‹_› ‹_› (by kun_count) ?_; refine' r_meth ?a75x1 ?a75x2 ?a75x3 ?a75x4 ?a75x5 ?a75x6 ?_; (case a75x1 => assumption); (case a75x2 => assumption); (case a75x4 => kso_lit); (case a75x3 => exact co_Markers); (case a75x5 => kso_lit); (case a75x6 => exact me_Markers_numbers); refine r_cw0B ‹_› ‹_› kp_365 ?_)
  refine r_call S (rest := marks) (.refl _) (numbers_spec B hx ha hd asc hz) R (by decide) ?_
  rintro _ h1 tk1 g1 _ hle1 S1 ⟨r, rfl, rfl, hr⟩
  refine r_marks R S1 hm hr (fun m => if p < m.pos then m.pos + q - p else m.pos) (fun vs => Ex2 fun n k => vs = [some (.ref x), some (.int p t1), some (.int q t2), some (.bool false), n, k]) ⟨_, _, rfl⟩ ?_ ?_
  · rintro m o rest g2 h2 tk2 vals2 t hmm hle2 ⟨n, k, rfl⟩ ⟨u1, u2, ho⟩ S2
    have im := (hi m hmm).le (hle1.trans hle2)
    have pm := hp m hmm
    (with_reducible refine OpAll.all ?_; intro _ _; refine wpAny_assign_Name ?_; refine r_store ‹_› ‹_› (by kxw_int) ?_; intro _ _; refine x_cons ?_; refine x_assign ?_ (by with_unfolding_all rfl); refine Subscript_ ?_; refine Attribute_any_ ?_ (by with_unfolding_all rfl); refine r_loc ‹_› ‹_› (by kun_count) ?_; refine' r_get ?a76x1 ?a76x2 ?a76x3 ?a76x4 ?a76x5 ?a76x6 ?a76x7 ?_; (case a76x1 => assumption); (case a76x2 => assumption); (case a76x4 => kso_lit); (case a76x3 => exact co_Markers); (case a76x5 => kso_lit); (case a76x6 => kic_val); (case a76x7 => with_unfolding_all rfl); refine r_loc ‹_› ‹_› (by kun_count) ?_)
    refine r_getD (S := by assumption) (by lks_lit) hd (MkTab.at asc hmm) ?_ (by with_unfolding_all rfl)
    (with_reducible refine r_store ‹_› ‹_› (by kxw_int) ?_; intro _ _; refine x_next ?_; refine x_cons ?_; refine wpAny_If ?_; refine isTrue_or ?_; refine wpAny_isTrue_Compare1 ?_ (by with_unfolding_all rfl); refine Attribute_any_ ?_ (by with_unfolding_all rfl); refine r_loc ‹_› ‹_› (by kun_count) ?_; refine' r_get ?a77x1 ?a77x2 ?a77x3 ?a77x4 ?a77x5 ?a77x6 ?a77x7 ?_; (case a77x1 => assumption); (case a77x2 => assumption); (case a77x4 => kso_lit); (case a77x3 => exact co_Marker); (case a77x5 => kso_lit); (case a77x6 => kic_val); (case a77x7 => with_unfolding_all rfl); refine r_loc ‹_› ‹_› (by kun_count) ?_; refine r_gt ?_; refine wpAny_truthy_bool ?_; refine if_dec ?_ ?_ <;> intro _; refine if_t ?_; refine x_cons ?_; refine plainObj_wpAny_Assign_Attribute ?_ (by with_unfolding_all rfl); refine wpAny_BinOp ?_; refine wpAny_BinOp ?_; refine Attribute_any_ ?_ (by with_unfolding_all rfl); refine r_loc ‹_› ‹_› (by kun_count) ?_; refine' r_get ?a78x1 ?a78x2 ?a78x3 ?a78x4 ?a78x5 ?a78x6 ?a78x7 ?_; (case a78x1 => assumption); (case a78x2 => assumption); (case a78x4 => kso_lit); (case a78x3 => exact co_Marker); (case a78x5 => kso_lit); (case a78x6 => kic_val); (case a78x7 => with_unfolding_all rfl); refine r_loc ‹_› ‹_› (by kun_count) ?_; refine r_add ?_; refine r_loc ‹_› ‹_› (by kun_count) ?_; refine r_sub ?_; refine r_loc ‹_› ‹_› (by kun_count) ?_; refine' r_set ?a79x1 ?a79x2 ?a79x3 ?a79x4 ?a79x5 ?a79x6 ?a79x7 ?_; (case a79x1 => assumption); (case a79x2 => assumption); (case a79x4 => kso_lit); (case a79x3 => exact co_Marker); (case a79x5 => kxw_text); (case a79x6 => assumption); (case a79x7 => kctr_letter); intro _ _ _ _; refine x_next ?_; refine wpAny_execs_nil ?_; refine x_next ?_; refine wpAny_execs_nil ?_; refine OpQ.out ‹_› ?_; rotate_left; refine isTrue_or ?_; refine isTrue_and ?_; refine wpAny_isTrue_Compare1 ?_ (by with_unfolding_all rfl); refine Attribute_any_ ?_ (by with_unfolding_all rfl); refine r_loc ‹_› ‹_› (by kun_count) ?_; refine' r_get ?a80x1 ?a80x2 ?a80x3 ?a80x4 ?a80x5 ?a80x6 ?a80x7 ?_; (case a80x1 => assumption); (case a80x2 => assumption); (case a80x4 => kso_lit); (case a80x3 => exact co_Marker); (case a80x5 => kso_lit); (case a80x6 => kic_val); (case a80x7 => with_unfolding_all rfl); refine r_loc ‹_› ‹_› (by kun_count) ?_; refine r_eq ?_; refine wpAny_truthy_bool ?_; refine if_dec ?_ ?_ <;> intro _; refine isTrue_and ?_; refine isTrue_or ?_; refine wpAny_isTrue_value ?_ (by with_unfolding_all rfl); refine r_loc ‹_› ‹_› (by kun_count) ?_; refine wpAny_truthy_bool ?_; refine if_f ?_; refine isTrue_or ?_; refine wpAny_isTrue_value ?_ (by with_unfolding_all rfl); refine Attribute_any_ ?_ (by with_unfolding_all rfl); refine r_loc ‹_› ‹_› (by kun_count) ?_; refine' r_get ?a81x1 ?a81x2 ?a81x3 ?a81x4 ?a81x5 ?a81x6 ?a81x7 ?_; (case a81x1 => assumption); (case a81x2 => assumption); (case a81x4 => kso_lit); (case a81x3 => exact co_Marker); (case a81x5 => kso_lit); (case a81x6 => kic_val); (case a81x7 => with_unfolding_all rfl); refine wpAny_truthy_bool ?_; rotate_left; refine if_f ?_; refine isTrue_or_nil ?_; refine if_f ?_; refine wpAny_execs_nil ?_; refine x_next ?_; refine wpAny_execs_nil ?_; refine OpQ.out ‹_› ?_; rotate_left)
    all_goals first | (exfalso; (first | lia | omega)) | exact ⟨_, _, _, _, _, rfl, rfl, Le.rfl, by assumption, ⟨_, _, rfl⟩, by rw [if_pos (by (first | lia | omega))]; exact ⟨_, _, by assumption⟩⟩ | exact ⟨_, _, _, _, _, rfl, rfl, Le.rfl, by assumption, ⟨_, _, rfl⟩, by rw [if_neg (by (first | lia | omega))]; exact ⟨_, _, ho⟩⟩
  · rintro g2 h2 tk2 vals2 marks' hle2 S2 hm2 ⟨n, k, rfl⟩
    (with_reducible refine x_next ?_; refine wpAny_execs_nil ?_; refine OpQ.out ‹_› ?_)
    exact x_endN0 (by assumption) ⟨_, rfl, hm2⟩
theorem deleted_spec (B : Base (A0.heap_1_1 w.params) G mg mb) {b x dx rw : Addr} {orw : Obj} {ms : List Mk} {marks : List (Addr × Obj)} {p q : Int} {t1 t2 : Tok} (hx : Inst g x 410 dx) (ha : AttrsAt w.params g dx ["rows"] [.ref rw]) (hd : DctO PG w rw orw (MkTab ms)) (asc : (ms.map (·.num)).Pairwise (· < ·)) (hz : ms.length < 64) (hi : ∀ m ∈ ms, Inst g m.x 342 m.dx) (hm : MksO w.params b ms marks) (hpq : p < q) (hp : ∀ m ∈ ms, m.pos < p ∨ q < m.pos) :
    Fn PG w (.ref 400) 12 [.ref x, .int p t1, .int q t2] G H g ((rw, orw) :: marks) (fun _ _ W' => Ex1 fun marks' => An2 (W' = (rw, orw) :: marks') (MksO w.params b (ms.map fun m => m.to (if q < m.pos then m.pos - (q - p) else m.pos)) marks')) := by
  refine fn_def [("self", .ref x), ("start", .int p t1), ("end", .int q t2)] ["self", "start", "end", "number", "marker"] [] [some (.ref x), some (.int p t1), some (.int q t2), none, none] (more := ["number", "marker"]) B (by k_is) (by k_is) (fun s _ => BindsTo.of_eq rfl) rfl rfl (by decide +kernel) ?_
  intro A h gs dr tk os L R sc S
  (with_reducible refine OpAll.all ?_; intro _ _; refine x_cons ?_; refine x_for ?_ (by intro _; with_unfolding_all rfl); refine MethodCall_ ?_ (by with_unfolding_all rfl); refine r_loc ‹_› ‹_› (by kun_count) ?_; refine' r_meth ?a82x1 ?a82x2 ?a82x3 ?a82x4 ?a82x5 ?a82x6 ?_; (case a82x1 => assumption); (case a82x2 => assumption); (case a82x4 => kso_lit); (case a82x3 => exact co_Markers); (case a82x5 => kso_lit); (case a82x6 => exact me_Markers_numbers); refine r_cw0B ‹_› ‹_› kp_365 ?_)
  refine r_call S (rest := marks) (.refl _) (numbers_spec B hx ha hd asc hz) R (by decide) ?_
  rintro _ h1 tk1 g1 _ hle1 S1 ⟨r, rfl, rfl, hr⟩
  refine r_marks R S1 hm hr (fun m => if q < m.pos then m.pos - (q - p) else m.pos) (fun vs => Ex2 fun n k => vs = [some (.ref x), some (.int p t1), some (.int q t2), n, k]) ⟨_, _, rfl⟩ ?_ ?_
  · rintro m o rest g2 h2 tk2 vals2 t hmm hle2 ⟨n, k, rfl⟩ ⟨u1, u2, ho⟩ S2
    have im := (hi m hmm).le (hle1.trans hle2)
    have pm := hp m hmm
    (with_reducible refine OpAll.all ?_; intro _ _; refine wpAny_assign_Name ?_; refine r_store ‹_› ‹_› (by kxw_int) ?_; intro _ _; refine x_cons ?_; refine x_assign ?_ (by with_unfolding_all rfl); refine Subscript_ ?_; refine Attribute_any_ ?_ (by with_unfolding_all rfl); refine r_loc ‹_› ‹_› (by kun_count) ?_; refine' r_get ?a83x1 ?a83x2 ?a83x3 ?a83x4 ?a83x5 ?a83x6 ?a83x7 ?_; (case a83x1 => assumption); (case a83x2 => assumption); (case a83x4 => kso_lit); (case a83x3 => exact co_Markers); (case a83x5 => kso_lit); (case a83x6 => kic_val); (case a83x7 => with_unfolding_all rfl); refine r_loc ‹_› ‹_› (by kun_count) ?_)
    refine r_getD (S := by assumption) (by lks_lit) hd (MkTab.at asc hmm) ?_ (by with_unfolding_all rfl)
    (with_reducible refine r_store ‹_› ‹_› (by kxw_int) ?_; intro _ _; refine x_next ?_; refine x_cons ?_; refine wpAny_If ?_; refine wpAny_isTrue_Compare1 ?_ (by with_unfolding_all rfl); refine Attribute_any_ ?_ (by with_unfolding_all rfl); refine r_loc ‹_› ‹_› (by kun_count) ?_; refine' r_get ?a84x1 ?a84x2 ?a84x3 ?a84x4 ?a84x5 ?a84x6 ?a84x7 ?_; (case a84x1 => assumption); (case a84x2 => assumption); (case a84x4 => kso_lit); (case a84x3 => exact co_Marker); (case a84x5 => kso_lit); (case a84x6 => kic_val); (case a84x7 => with_unfolding_all rfl); refine r_loc ‹_› ‹_› (by kun_count) ?_; refine r_gt ?_; refine wpAny_truthy_bool ?_; refine if_dec ?_ ?_ <;> intro _; refine x_cons ?_; refine plainObj_wpAny_Assign_Attribute ?_ (by with_unfolding_all rfl); refine wpAny_BinOp ?_; refine Attribute_any_ ?_ (by with_unfolding_all rfl); refine r_loc ‹_› ‹_› (by kun_count) ?_; refine' r_get ?a85x1 ?a85x2 ?a85x3 ?a85x4 ?a85x5 ?a85x6 ?a85x7 ?_; (case a85x1 => assumption); (case a85x2 => assumption); (case a85x4 => kso_lit); (case a85x3 => exact co_Marker); (case a85x5 => kso_lit); (case a85x6 => kic_val); (case a85x7 => with_unfolding_all rfl); refine wpAny_BinOp ?_; refine r_loc ‹_› ‹_› (by kun_count) ?_; refine r_loc ‹_› ‹_› (by kun_count) ?_; refine r_sub ?_; refine r_sub ?_; refine r_loc ‹_› ‹_› (by kun_count) ?_; refine' r_set ?a86x1 ?a86x2 ?a86x3 ?a86x4 ?a86x5 ?a86x6 ?a86x7 ?_; (case a86x1 => assumption); (case a86x2 => assumption); (case a86x4 => kso_lit); (case a86x3 => exact co_Marker); (case a86x5 => kxw_text); (case a86x6 => assumption); (case a86x7 => kctr_letter); intro _ _ _ _; refine x_next ?_; refine wpAny_execs_nil ?_; refine x_next ?_; refine wpAny_execs_nil ?_; refine OpQ.out ‹_› ?_; rotate_left; refine x_cons ?_; refine wpAny_If ?_; refine wpAny_isTrue_Compare1 ?_ (by with_unfolding_all rfl); refine Attribute_any_ ?_ (by with_unfolding_all rfl); refine r_loc ‹_› ‹_› (by kun_count) ?_; refine' r_get ?a87x1 ?a87x2 ?a87x3 ?a87x4 ?a87x5 ?a87x6 ?a87x7 ?_; (case a87x1 => assumption); (case a87x2 => assumption); (case a87x4 => kso_lit); (case a87x3 => exact co_Marker); (case a87x5 => kso_lit); (case a87x6 => kic_val); (case a87x7 => with_unfolding_all rfl); refine r_loc ‹_› ‹_› (by kun_count) ?_; refine r_gt ?_; refine wpAny_truthy_bool ?_; refine if_dec ?_ ?_ <;> intro _; refine x_cons ?_; refine plainObj_wpAny_Assign_Attribute ?_ (by with_unfolding_all rfl); refine r_loc ‹_› ‹_› (by kun_count) ?_; refine r_loc ‹_› ‹_› (by kun_count) ?_; refine' r_set ?a88x1 ?a88x2 ?a88x3 ?a88x4 ?a88x5 ?a88x6 ?a88x7 ?_; (case a88x1 => assumption); (case a88x2 => assumption); (case a88x4 => kso_lit); (case a88x3 => exact co_Marker); (case a88x5 => kxw_text); (case a88x6 => assumption); (case a88x7 => kctr_letter); intro _ _ _ _; refine x_next ?_; refine wpAny_execs_nil ?_; refine x_next ?_; refine wpAny_execs_nil ?_; refine x_next ?_; refine wpAny_execs_nil ?_; refine OpQ.out ‹_› ?_; rotate_left; refine wpAny_execs_nil ?_; refine x_next ?_; refine wpAny_execs_nil ?_; refine x_next ?_; refine wpAny_execs_nil ?_; refine OpQ.out ‹_› ?_; rotate_left)
    all_goals first | (exfalso; (first | lia | omega)) | exact ⟨_, _, _, _, _, rfl, rfl, Le.rfl, by assumption, ⟨_, _, rfl⟩, by rw [if_pos (by (first | lia | omega))]; exact ⟨_, _, by assumption⟩⟩ | exact ⟨_, _, _, _, _, rfl, rfl, Le.rfl, by assumption, ⟨_, _, rfl⟩, by rw [if_neg (by (first | lia | omega))]; exact ⟨_, _, ho⟩⟩
  · rintro g2 h2 tk2 vals2 marks' hle2 S2 hm2 ⟨n, k, rfl⟩
    (with_reducible refine x_next ?_; refine wpAny_execs_nil ?_; refine OpQ.out ‹_› ?_)
    exact x_endN0 (by assumption) ⟨_, rfl, hm2⟩
theorem replaced_spec (B : Base (A0.heap_1_1 w.params) G mg mb) {b x dx rw : Addr} {orw : Obj} {ms : List Mk} {marks : List (Addr × Obj)} {p q : Int} {z : Int} {t1 t2 t3 : Tok} (hx : Inst g x 410 dx) (ha : AttrsAt w.params g dx ["rows"] [.ref rw]) (hd : DctO PG w rw orw (MkTab ms)) (asc : (ms.map (·.num)).Pairwise (· < ·)) (hz : ms.length < 64) (hi : ∀ m ∈ ms, Inst g m.x 342 m.dx) (hm : MksO w.params b ms marks) (hpq : p < q) (hp : ∀ m ∈ ms, m.pos < p ∨ q < m.pos) :
    Fn PG w (.ref 407) 12 [.ref x, .int p t1, .int q t2, .int z t3] G H g ((rw, orw) :: marks) (fun _ _ W' => Ex1 fun marks' => An2 (W' = (rw, orw) :: marks') (MksO w.params b (ms.map fun m => m.to (if q < m.pos then m.pos + z - (q - p) else m.pos)) marks')) := by
  refine fn_def [("self", .ref x), ("start", .int p t1), ("end", .int q t2), ("many", .int z t3)] ["self", "start", "end", "many", "number", "marker"] [] [some (.ref x), some (.int p t1), some (.int q t2), some (.int z t3), none, none] (more := ["number", "marker"]) B (by k_is) (by k_is) (fun s _ => BindsTo.of_eq rfl) rfl rfl (by decide +kernel) ?_
  intro A h gs dr tk os L R sc S
  (with_reducible refine OpAll.all ?_; intro _ _; refine x_cons ?_; refine x_for ?_ (by intro _; with_unfolding_all rfl); refine MethodCall_ ?_ (by with_unfolding_all rfl); refine r_loc ‹_› ‹_› (by kun_count) ?_; refine' r_meth ?a89x1 ?a89x2 ?a89x3 ?a89x4 ?a89x5 ?a89x6 ?_; (case a89x1 => assumption); (case a89x2 => assumption); (case a89x4 => kso_lit); (case a89x3 => exact co_Markers); (case a89x5 => kso_lit); (case a89x6 => exact me_Markers_numbers); refine r_cw0B ‹_› ‹_› kp_365 ?_)
  refine r_call S (rest := marks) (.refl _) (numbers_spec B hx ha hd asc hz) R (by decide) ?_
  rintro _ h1 tk1 g1 _ hle1 S1 ⟨r, rfl, rfl, hr⟩
  refine r_marks R S1 hm hr (fun m => if q < m.pos then m.pos + z - (q - p) else m.pos) (fun vs => Ex2 fun n k => vs = [some (.ref x), some (.int p t1), some (.int q t2), some (.int z t3), n, k]) ⟨_, _, rfl⟩ ?_ ?_
  · rintro m o rest g2 h2 tk2 vals2 t hmm hle2 ⟨n, k, rfl⟩ ⟨u1, u2, ho⟩ S2
    have im := (hi m hmm).le (hle1.trans hle2)
    have pm := hp m hmm
    (with_reducible refine OpAll.all ?_; intro _ _; refine wpAny_assign_Name ?_; refine r_store ‹_› ‹_› (by kxw_int) ?_; intro _ _; refine x_cons ?_; refine x_assign ?_ (by with_unfolding_all rfl); refine Subscript_ ?_; refine Attribute_any_ ?_ (by with_unfolding_all rfl); refine r_loc ‹_› ‹_› (by kun_count) ?_; refine' r_get ?a90x1 ?a90x2 ?a90x3 ?a90x4 ?a90x5 ?a90x6 ?a90x7 ?_; (case a90x1 => assumption); (case a90x2 => assumption); (case a90x4 => kso_lit); (case a90x3 => exact co_Markers); (case a90x5 => kso_lit); (case a90x6 => kic_val); (case a90x7 => with_unfolding_all rfl); refine r_loc ‹_› ‹_› (by kun_count) ?_)
    refine r_getD (S := by assumption) (by lks_lit) hd (MkTab.at asc hmm) ?_ (by with_unfolding_all rfl)
    (with_reducible refine r_store ‹_› ‹_› (by kxw_int) ?_; intro _ _; refine x_next ?_; refine x_cons ?_; refine wpAny_If ?_; refine wpAny_isTrue_Compare1 ?_ (by with_unfolding_all rfl); refine Attribute_any_ ?_ (by with_unfolding_all rfl); refine r_loc ‹_› ‹_› (by kun_count) ?_; refine' r_get ?a91x1 ?a91x2 ?a91x3 ?a91x4 ?a91x5 ?a91x6 ?a91x7 ?_; (case a91x1 => assumption); (case a91x2 => assumption); (case a91x4 => kso_lit); (case a91x3 => exact co_Marker); (case a91x5 => kso_lit); (case a91x6 => kic_val); (case a91x7 => with_unfolding_all rfl); refine r_loc ‹_› ‹_› (by kun_count) ?_; refine r_gte ?_; refine wpAny_truthy_bool ?_; refine if_dec ?_ ?_ <;> intro _; refine x_cons ?_; refine plainObj_wpAny_Assign_Attribute ?_ (by with_unfolding_all rfl); refine wpAny_BinOp ?_; refine wpAny_BinOp ?_; refine Attribute_any_ ?_ (by with_unfolding_all rfl); refine r_loc ‹_› ‹_› (by kun_count) ?_; refine' r_get ?a92x1 ?a92x2 ?a92x3 ?a92x4 ?a92x5 ?a92x6 ?a92x7 ?_; (case a92x1 => assumption); (case a92x2 => assumption); (case a92x4 => kso_lit); (case a92x3 => exact co_Marker); (case a92x5 => kso_lit); (case a92x6 => kic_val); (case a92x7 => with_unfolding_all rfl); refine r_loc ‹_› ‹_› (by kun_count) ?_; refine r_add ?_; refine wpAny_BinOp ?_; refine r_loc ‹_› ‹_› (by kun_count) ?_; refine r_loc ‹_› ‹_› (by kun_count) ?_; refine r_sub ?_; refine r_sub ?_; refine r_loc ‹_› ‹_› (by kun_count) ?_; refine' r_set ?a93x1 ?a93x2 ?a93x3 ?a93x4 ?a93x5 ?a93x6 ?a93x7 ?_; (case a93x1 => assumption); (case a93x2 => assumption); (case a93x4 => kso_lit); (case a93x3 => exact co_Marker); (case a93x5 => kxw_text); (case a93x6 => assumption); (case a93x7 => kctr_letter); intro _ _ _ _; refine x_next ?_; refine wpAny_execs_nil ?_; refine x_next ?_; refine wpAny_execs_nil ?_; refine OpQ.out ‹_› ?_; rotate_left; refine x_cons ?_; refine wpAny_If ?_; refine wpAny_isTrue_Compare1 ?_ (by with_unfolding_all rfl); refine Attribute_any_ ?_ (by with_unfolding_all rfl); refine r_loc ‹_› ‹_› (by kun_count) ?_; refine' r_get ?a94x1 ?a94x2 ?a94x3 ?a94x4 ?a94x5 ?a94x6 ?a94x7 ?_; (case a94x1 => assumption); (case a94x2 => assumption); (case a94x4 => kso_lit); (case a94x3 => exact co_Marker); (case a94x5 => kso_lit); (case a94x6 => kic_val); (case a94x7 => with_unfolding_all rfl); refine r_loc ‹_› ‹_› (by kun_count) ?_; refine r_gt ?_; refine wpAny_truthy_bool ?_; refine if_dec ?_ ?_ <;> intro _; refine x_cons ?_; refine plainObj_wpAny_Assign_Attribute ?_ (by with_unfolding_all rfl); refine r_loc ‹_› ‹_› (by kun_count) ?_; refine r_loc ‹_› ‹_› (by kun_count) ?_; refine' r_set ?a95x1 ?a95x2 ?a95x3 ?a95x4 ?a95x5 ?a95x6 ?a95x7 ?_; (case a95x1 => assumption); (case a95x2 => assumption); (case a95x4 => kso_lit); (case a95x3 => exact co_Marker); (case a95x5 => kxw_text); (case a95x6 => assumption); (case a95x7 => kctr_letter); intro _ _ _ _; refine x_next ?_; refine wpAny_execs_nil ?_; refine x_next ?_; refine wpAny_execs_nil ?_; refine x_next ?_; refine wpAny_execs_nil ?_; refine OpQ.out ‹_› ?_; rotate_left; refine wpAny_execs_nil ?_; refine x_next ?_; refine wpAny_execs_nil ?_; refine x_next ?_; refine wpAny_execs_nil ?_; refine OpQ.out ‹_› ?_; rotate_left)
    all_goals first | (exfalso; (first | lia | omega)) | exact ⟨_, _, _, _, _, rfl, rfl, Le.rfl, by assumption, ⟨_, _, rfl⟩, by rw [if_pos (by (first | lia | omega))]; exact ⟨_, _, by assumption⟩⟩ | exact ⟨_, _, _, _, _, rfl, rfl, Le.rfl, by assumption, ⟨_, _, rfl⟩, by rw [if_neg (by (first | lia | omega))]; exact ⟨_, _, ho⟩⟩
  · rintro g2 h2 tk2 vals2 marks' hle2 S2 hm2 ⟨n, k, rfl⟩
    (with_reducible refine x_next ?_; refine wpAny_execs_nil ?_; refine OpQ.out ‹_› ?_)
    exact x_endN0 (by assumption) ⟨_, rfl, hm2⟩
end
abbrev bufN : List Str := ["number", "name", "text", "markers", "point", "begv", "zv", "mark", "is_live", "is_read_only", "ticks", "codes_ticks", "saved_ticks", "listeners", "undo", "props", "overlays", "locals", "syntax", "file"]
section
variable {w : World} {G H g : Heap} {mg mb : Str → Option Value}
/-- the state of a buffer -/
noncomputable def BufO (P : Params) (ob : Obj) (t ms ls : Addr) (p z : Int) : Prop := Ex12 fun n nv t0 t1 t2 t3 k1 k2 k3 u1 u2 u3 => AttrsO P ob bufN [.int n t0, nv, .ref t, .ref ms, .int p t1, .int 1 t2, .int z t3, .none, .bool true, .bool false, .int k1 u1, .int k2 u2, .int k3 u3, .ref ls, .none, .none, .none, .none, .none, .none]
/-- what of a buffer does not change -/
structure BufG (P : Params) (g : Heap) (b bd t td ms msd rw ls : Addr) : Prop where
  bi : Inst g b 516 bd
  ti : Inst g t 265 td
  mi : Inst g ms 410 msd
  ma : AttrsAt P g msd ["rows"] [.ref rw]
  la : LstAt g ls []
theorem BufG.le {P : Params} {g g' : Heap} {b bd t td ms msd rw ls : Addr} (x : BufG P g b bd t td ms msd rw ls) (k : Le g g') : BufG P g' b bd t td ms msd rw ls := ⟨x.bi.le k, x.ti.le k, x.mi.le k, x.ma.le k, x.la.le k⟩
theorem perm4 {α : Type} (a b c d : α) : [a, b, c, d].Perm [d, b, c, a] :=
  (List.perm_append_comm (l₁ := [a]) (l₂ := [b, c, d])).trans (List.perm_middle (l₁ := [b, c]) (l₂ := [a]) (a := d))
theorem binit_spec (B : Base (A0.heap_1_1 w.params) G mg mb) {b bd : Addr} {n : Int} {nv : Value} {t0 : Tok} (hx : Inst g b 516 bd) :
    Fn PG w (.ref 429) 14 [.ref b, .int n t0, nv] G H g [(bd, dictOf [] 0)] (fun v g' W' => v = .none ∧ (Ex11 fun ob t td ot c oc ms msd rw orw ls => An5 (W' = [(bd, ob), (td, ot), (c, oc), (rw, orw)]) (BufG w.params g' b bd t td ms msd rw ls) (BufO w.params ob t ms ls 1 1) (GapO w.params ot oc c (List.replicate 8 0) 0 8) (DctO PG w rw orw []))) := by
  refine fn_def [("self", .ref b), ("number", .int n t0), ("name", nv), ("room", .int 8 _)] ["self", "number", "name", "room"] ["GapText", "Markers"] [some (.ref b), some (.int n t0), some nv, some (.int 8 _)] (more := []) B (by k_is) (by k_is) (fun s X => binds_K X rfl (by k_is) rfl rfl rfl) rfl rfl (by decide +kernel) ?_
  intro A h gs dr tk os L R sc S
  have h0 := att0 (P := w.params)
  (with_reducible refine OpAll.all ?_; intro _ _; refine x_cons ?_; refine plainObj_wpAny_Assign_Attribute ?_ (by with_unfolding_all rfl); refine r_loc ‹_› ‹_› (by kun_count) ?_; refine r_loc ‹_› ‹_› (by kun_count) ?_; refine' r_setN ?a96x1 ?a96x2 ?a96x3 ?a96x4 ?a96x5 ?a96x6 ?a96x7 ?_; (case a96x1 => assumption); (case a96x2 => assumption); (case a96x4 => kso_lit); (case a96x3 => exact co_Buffer); (case a96x5 => kxw_text); (case a96x6 => assumption); (case a96x7 => with_unfolding_all rfl); intro _ _ hN _; (try simp only [List.nil_append, List.cons_append] at hN); refine x_next ?_; refine x_cons ?_; refine plainObj_wpAny_Assign_Attribute ?_ (by with_unfolding_all rfl); refine r_loc ‹_› ‹_› (by kun_count) ?_; refine r_loc ‹_› ‹_› (by kun_count) ?_; refine' r_setN ?a97x1 ?a97x2 ?a97x3 ?a97x4 ?a97x5 ?a97x6 ?a97x7 ?_; (case a97x1 => assumption); (case a97x2 => assumption); (case a97x4 => kso_lit); (case a97x3 => exact co_Buffer); (case a97x5 => kxw_text); (case a97x6 => assumption); (case a97x7 => with_unfolding_all rfl); intro _ _ hN _; (try simp only [List.nil_append, List.cons_append] at hN); refine x_next ?_; refine x_cons ?_; refine plainObj_wpAny_Assign_Attribute ?_ (by with_unfolding_all rfl); refine Call_ ?_ (by with_unfolding_all rfl); refine r_glob ‹_› ‹_› ‹_› (by lks_lit) g_GapText ?_; refine r_cwA ‹_› kp_265 ?_ (by with_unfolding_all rfl) (by with_unfolding_all rfl); refine args_cons ?_ (by with_unfolding_all rfl); refine List_ ?_; refine args_nil ?_)
  refine r_listI (S := by assumption) ?_
  intro r h1 g1 hle1 hr S1
  have hr0 : IntsAt g1 r [] := hr.ints .nil
  (with_reducible refine args_cons ?_ (by with_unfolding_all rfl); refine r_loc ‹_› ‹_› (by kun_count) ?_; refine args_nil ?_; refine r_le ‹_› (by rfl) ?_)
  refine r_make S1 B (W := []) (.refl _) mk_GapText (fun x dx H g2 hle hi => ginit_spec B hi (hr0.le hle)) R (by decide) ?_
  rintro t td h2 tk2 g2 _ hle2 ht S2 ⟨ot, c, oc, rfl, hg⟩
  simp only [List.cons_append, List.nil_append] at S2
  (with_reducible refine r_loc ‹_› ‹_› (by kun_count) ?_; refine' r_setN ?a98x1 ?a98x2 ?a98x3 ?a98x4 ?a98x5 ?a98x6 ?a98x7 ?_; (case a98x1 => assumption); (case a98x2 => assumption); (case a98x4 => kso_lit); (case a98x3 => exact co_Buffer); (case a98x5 => kxw_text); (case a98x6 => assumption); (case a98x7 => with_unfolding_all rfl); intro _ _ hN _; (try simp only [List.nil_append, List.cons_append] at hN); refine x_next ?_; refine x_cons ?_; refine plainObj_wpAny_Assign_Attribute ?_ (by with_unfolding_all rfl); refine Call_ ?_ (by with_unfolding_all rfl); refine r_glob ‹_› ‹_› ‹_› (by lks_lit) g_Markers ?_; refine r_cw0A ‹_› ‹_› kp_410 ?_)
  refine r_make (S := by assumption) B (W := []) (.refl _) mk_Markers (fun x dx H g2 hle hi => msinit_spec B hi) R (by decide) ?_
  rintro ms msd h3 tk3 g3 _ hle3 hm S3 ⟨om, rw, orw, rfl, ha, hd⟩
  simp only [List.cons_append, List.nil_append] at S3
  obtain ⟨g4, hle4, hom, S4⟩ := S3.freezeW (fun b hb => by simp only [ent, List.map_cons, List.map_nil, List.mem_cons, List.not_mem_nil, or_false] at hb ⊢; exact .inr (.inr (.inr hb)))
  have ha : AttrsAt w.params g4 msd ["rows"] [.ref rw] := ⟨om, hom, ha⟩
  (with_reducible refine r_loc ‹_› ‹_› (by kun_count) ?_; refine' r_setN ?a99x1 ?a99x2 ?a99x3 ?a99x4 ?a99x5 ?a99x6 ?a99x7 ?_; (case a99x1 => assumption); (case a99x2 => assumption); (case a99x4 => kso_lit); (case a99x3 => exact co_Buffer); (case a99x5 => kxw_text); (case a99x6 => assumption); (case a99x7 => with_unfolding_all rfl); intro _ _ hN _; (try simp only [List.nil_append, List.cons_append] at hN); refine x_next ?_; refine x_cons ?_; refine plainObj_wpAny_Assign_Attribute ?_ (by with_unfolding_all rfl); refine r_int ?_; refine r_loc ‹_› ‹_› (by kun_count) ?_; refine' r_setN ?a100x1 ?a100x2 ?a100x3 ?a100x4 ?a100x5 ?a100x6 ?a100x7 ?_; (case a100x1 => assumption); (case a100x2 => assumption); (case a100x4 => kso_lit); (case a100x3 => exact co_Buffer); (case a100x5 => kxw_text); (case a100x6 => assumption); (case a100x7 => with_unfolding_all rfl); intro _ _ hN _; (try simp only [List.nil_append, List.cons_append] at hN); refine x_next ?_; refine x_cons ?_; refine plainObj_wpAny_Assign_Attribute ?_ (by with_unfolding_all rfl); refine r_int ?_; refine r_loc ‹_› ‹_› (by kun_count) ?_; refine' r_setN ?a101x1 ?a101x2 ?a101x3 ?a101x4 ?a101x5 ?a101x6 ?a101x7 ?_; (case a101x1 => assumption); (case a101x2 => assumption); (case a101x4 => kso_lit); (case a101x3 => exact co_Buffer); (case a101x5 => kxw_text); (case a101x6 => assumption); (case a101x7 => with_unfolding_all rfl); intro _ _ hN _; (try simp only [List.nil_append, List.cons_append] at hN); refine x_next ?_; refine x_cons ?_; refine plainObj_wpAny_Assign_Attribute ?_ (by with_unfolding_all rfl); refine r_int ?_; refine r_loc ‹_› ‹_› (by kun_count) ?_; refine' r_setN ?a102x1 ?a102x2 ?a102x3 ?a102x4 ?a102x5 ?a102x6 ?a102x7 ?_; (case a102x1 => assumption); (case a102x2 => assumption); (case a102x4 => kso_lit); (case a102x3 => exact co_Buffer); (case a102x5 => kxw_text); (case a102x6 => assumption); (case a102x7 => with_unfolding_all rfl); intro _ _ hN _; (try simp only [List.nil_append, List.cons_append] at hN); refine x_next ?_; refine x_cons ?_; refine plainObj_wpAny_Assign_Attribute ?_ (by with_unfolding_all rfl); refine wpAny_Constant_none ?_; refine r_loc ‹_› ‹_› (by kun_count) ?_; refine' r_setN ?a103x1 ?a103x2 ?a103x3 ?a103x4 ?a103x5 ?a103x6 ?a103x7 ?_; (case a103x1 => assumption); (case a103x2 => assumption); (case a103x4 => kso_lit); (case a103x3 => exact co_Buffer); (case a103x5 => kxw_text); (case a103x6 => assumption); (case a103x7 => with_unfolding_all rfl); intro _ _ hN _; (try simp only [List.nil_append, List.cons_append] at hN); refine x_next ?_; refine x_cons ?_; refine plainObj_wpAny_Assign_Attribute ?_ (by with_unfolding_all rfl); refine wpAny_Constant_bool ?_; refine r_loc ‹_› ‹_› (by kun_count) ?_; refine' r_setN ?a104x1 ?a104x2 ?a104x3 ?a104x4 ?a104x5 ?a104x6 ?a104x7 ?_; (case a104x1 => assumption); (case a104x2 => assumption); (case a104x4 => kso_lit); (case a104x3 => exact co_Buffer); (case a104x5 => kxw_text); (case a104x6 => assumption); (case a104x7 => with_unfolding_all rfl); intro _ _ hN _; (try simp only [List.nil_append, List.cons_append] at hN); refine x_next ?_; refine x_cons ?_; refine plainObj_wpAny_Assign_Attribute ?_ (by with_unfolding_all rfl); refine wpAny_Constant_bool ?_; refine r_loc ‹_› ‹_› (by kun_count) ?_; refine' r_setN ?a105x1 ?a105x2 ?a105x3 ?a105x4 ?a105x5 ?a105x6 ?a105x7 ?_; (case a105x1 => assumption); (case a105x2 => assumption); (case a105x4 => kso_lit); (case a105x3 => exact co_Buffer); (case a105x5 => kxw_text); (case a105x6 => assumption); (case a105x7 => with_unfolding_all rfl); intro _ _ hN _; (try simp only [List.nil_append, List.cons_append] at hN); refine x_next ?_; refine x_cons ?_; refine plainObj_wpAny_Assign_Attribute ?_ (by with_unfolding_all rfl); refine r_int ?_; refine r_loc ‹_› ‹_› (by kun_count) ?_; refine' r_setN ?a106x1 ?a106x2 ?a106x3 ?a106x4 ?a106x5 ?a106x6 ?a106x7 ?_; (case a106x1 => assumption); (case a106x2 => assumption); (case a106x4 => kso_lit); (case a106x3 => exact co_Buffer); (case a106x5 => kxw_text); (case a106x6 => assumption); (case a106x7 => with_unfolding_all rfl); intro _ _ hN _; (try simp only [List.nil_append, List.cons_append] at hN); refine x_next ?_; refine x_cons ?_; refine plainObj_wpAny_Assign_Attribute ?_ (by with_unfolding_all rfl); refine r_int ?_; refine r_loc ‹_› ‹_› (by kun_count) ?_; refine' r_setN ?a107x1 ?a107x2 ?a107x3 ?a107x4 ?a107x5 ?a107x6 ?a107x7 ?_; (case a107x1 => assumption); (case a107x2 => assumption); (case a107x4 => kso_lit); (case a107x3 => exact co_Buffer); (case a107x5 => kxw_text); (case a107x6 => assumption); (case a107x7 => with_unfolding_all rfl); intro _ _ hN _; (try simp only [List.nil_append, List.cons_append] at hN); refine x_next ?_; refine x_cons ?_; refine plainObj_wpAny_Assign_Attribute ?_ (by with_unfolding_all rfl); refine r_int ?_; refine r_loc ‹_› ‹_› (by kun_count) ?_; refine' r_setN ?a108x1 ?a108x2 ?a108x3 ?a108x4 ?a108x5 ?a108x6 ?a108x7 ?_; (case a108x1 => assumption); (case a108x2 => assumption); (case a108x4 => kso_lit); (case a108x3 => exact co_Buffer); (case a108x5 => kxw_text); (case a108x6 => assumption); (case a108x7 => with_unfolding_all rfl); intro _ _ hN _; (try simp only [List.nil_append, List.cons_append] at hN); refine x_next ?_; refine x_cons ?_; refine plainObj_wpAny_Assign_Attribute ?_ (by with_unfolding_all rfl); refine List_ ?_; refine args_nil ?_)
  refine r_listI (S := by assumption) ?_
  intro ls h5 g5 hle5 hls S5
  (with_reducible refine r_loc ‹_› ‹_› (by kun_count) ?_; refine' r_setN ?a109x1 ?a109x2 ?a109x3 ?a109x4 ?a109x5 ?a109x6 ?a109x7 ?_; (case a109x1 => assumption); (case a109x2 => assumption); (case a109x4 => kso_lit); (case a109x3 => exact co_Buffer); (case a109x5 => kxw_text); (case a109x6 => assumption); (case a109x7 => with_unfolding_all rfl); intro _ _ hN _; (try simp only [List.nil_append, List.cons_append] at hN); refine x_next ?_; refine x_cons ?_; refine plainObj_wpAny_Assign_Attribute ?_ (by with_unfolding_all rfl); refine wpAny_Constant_none ?_; refine r_loc ‹_› ‹_› (by kun_count) ?_; refine' r_setN ?a110x1 ?a110x2 ?a110x3 ?a110x4 ?a110x5 ?a110x6 ?a110x7 ?_; (case a110x1 => assumption); (case a110x2 => assumption); (case a110x4 => kso_lit); (case a110x3 => exact co_Buffer); (case a110x5 => kxw_text); (case a110x6 => assumption); (case a110x7 => with_unfolding_all rfl); intro _ _ hN _; (try simp only [List.nil_append, List.cons_append] at hN); refine x_next ?_; refine x_cons ?_; refine plainObj_wpAny_Assign_Attribute ?_ (by with_unfolding_all rfl); refine wpAny_Constant_none ?_; refine r_loc ‹_› ‹_› (by kun_count) ?_; refine' r_setN ?a111x1 ?a111x2 ?a111x3 ?a111x4 ?a111x5 ?a111x6 ?a111x7 ?_; (case a111x1 => assumption); (case a111x2 => assumption); (case a111x4 => kso_lit); (case a111x3 => exact co_Buffer); (case a111x5 => kxw_text); (case a111x6 => assumption); (case a111x7 => with_unfolding_all rfl); intro _ _ hN _; (try simp only [List.nil_append, List.cons_append] at hN); refine x_next ?_; refine x_cons ?_; refine plainObj_wpAny_Assign_Attribute ?_ (by with_unfolding_all rfl); refine wpAny_Constant_none ?_; refine r_loc ‹_› ‹_› (by kun_count) ?_; refine' r_setN ?a112x1 ?a112x2 ?a112x3 ?a112x4 ?a112x5 ?a112x6 ?a112x7 ?_; (case a112x1 => assumption); (case a112x2 => assumption); (case a112x4 => kso_lit); (case a112x3 => exact co_Buffer); (case a112x5 => kxw_text); (case a112x6 => assumption); (case a112x7 => with_unfolding_all rfl); intro _ _ hN _; (try simp only [List.nil_append, List.cons_append] at hN); refine x_next ?_; refine x_cons ?_; refine plainObj_wpAny_Assign_Attribute ?_ (by with_unfolding_all rfl); refine wpAny_Constant_none ?_; refine r_loc ‹_› ‹_› (by kun_count) ?_; refine' r_setN ?a113x1 ?a113x2 ?a113x3 ?a113x4 ?a113x5 ?a113x6 ?a113x7 ?_; (case a113x1 => assumption); (case a113x2 => assumption); (case a113x4 => kso_lit); (case a113x3 => exact co_Buffer); (case a113x5 => kxw_text); (case a113x6 => assumption); (case a113x7 => with_unfolding_all rfl); intro _ _ hN _; (try simp only [List.nil_append, List.cons_append] at hN); refine x_next ?_; refine x_cons ?_; refine plainObj_wpAny_Assign_Attribute ?_ (by with_unfolding_all rfl); refine wpAny_Constant_none ?_; refine r_loc ‹_› ‹_› (by kun_count) ?_; refine' r_setN ?a114x1 ?a114x2 ?a114x3 ?a114x4 ?a114x5 ?a114x6 ?a114x7 ?_; (case a114x1 => assumption); (case a114x2 => assumption); (case a114x4 => kso_lit); (case a114x3 => exact co_Buffer); (case a114x5 => kxw_text); (case a114x6 => assumption); (case a114x7 => with_unfolding_all rfl); intro _ _ hN _; (try simp only [List.nil_append, List.cons_append] at hN); refine x_next ?_; refine x_cons ?_; refine plainObj_wpAny_Assign_Attribute ?_ (by with_unfolding_all rfl); refine wpAny_Constant_none ?_; refine r_loc ‹_› ‹_› (by kun_count) ?_; refine' r_setN ?a115x1 ?a115x2 ?a115x3 ?a115x4 ?a115x5 ?a115x6 ?a115x7 ?_; (case a115x1 => assumption); (case a115x2 => assumption); (case a115x4 => kso_lit); (case a115x3 => exact co_Buffer); (case a115x5 => kxw_text); (case a115x6 => assumption); (case a115x7 => with_unfolding_all rfl); intro _ _ hN _; (try simp only [List.nil_append, List.cons_append] at hN); refine x_next ?_; refine wpAny_execs_nil ?_; refine OpQ.out ‹_› ?_)
  exact x_endN (by assumption) (W := [(_, _), (_, _), (_, _), (_, _)]) (rest := []) (perm4 _ _ _ _) ⟨rfl, _, _, _, _, _, _, _, _, _, _, _, rfl, ⟨hx.le (hle1.trans (hle2.trans (hle3.trans (hle4.trans hle5)))), ht.le (hle3.trans (hle4.trans hle5)), hm.le (hle4.trans hle5), ha.le hle5, hls⟩, ⟨_, _, _, _, _, _, _, _, _, _, _, _, by assumption⟩, hg, hd⟩

theorem bsize_spec (B : Base (A0.heap_1_1 w.params) G mg mb) {b bd t td ms msd rw ls c : Addr} {ob ot oc : Obj} {cells : List Int} {a e p z : Int} (hx : BufG w.params g b bd t td ms msd rw ls) (ha : BufO w.params ob t ms ls p z) (hg : GapO w.params ot oc c cells a e) :
    Fn PG w (.ref 464) 12 [.ref b] G H g [(bd, ob), (td, ot), (c, oc)] (fun v _ W' => W' = [(bd, ob), (td, ot), (c, oc)] ∧ (Ex1 fun k => v = .int (gtxt cells a e).length k)) := by
  refine fn_def [("self", .ref b)] ["self"] [] [some (.ref b)] (more := []) B (by k_is) (by k_is) (fun s _ => BindsTo.of_eq rfl) rfl rfl (by decide +kernel) ?_
  intro A h gs dr tk os L R sc S
  have hgg := hg
  obtain ⟨bi, ti, mi, ma, la⟩ := hx
  obtain ⟨_, _, _, _, _, _, _, _, _, _, _, _, ha⟩ := ha
  obtain ⟨⟨t1, t2, t3, hga⟩, hc, hb⟩ := hg
  (with_reducible refine OpAll.all ?_; intro _ _; refine x_cons ?_; refine wpAny_Return_some ?_; refine MethodCall_ ?_ (by with_unfolding_all rfl); refine Attribute_any_ ?_ (by with_unfolding_all rfl); refine r_loc ‹_› ‹_› (by kun_count) ?_; refine' r_get ?a116x1 ?a116x2 ?a116x3 ?a116x4 ?a116x5 ?a116x6 ?a116x7 ?_; (case a116x1 => assumption); (case a116x2 => assumption); (case a116x4 => kso_lit); (case a116x3 => exact co_Buffer); (case a116x5 => kso_lit); (case a116x6 => kic_val); (case a116x7 => with_unfolding_all rfl); refine' r_meth ?a117x1 ?a117x2 ?a117x3 ?a117x4 ?a117x5 ?a117x6 ?_; (case a117x1 => assumption); (case a117x2 => assumption); (case a117x4 => kso_lit); (case a117x3 => exact co_GapText); (case a117x5 => kso_lit); (case a117x6 => exact me_GapText_size); refine r_cw0B ‹_› ‹_› kp_199 ?_)
  refine r_call S (List.perm_append_singleton (bd, ob) [(td, ot), (c, oc)]).symm (gsize_spec B ti hgg) R (by decide) ?_
  rintro _ h1 tk1 g1 _ hle1 S1 ⟨rfl, k, rfl⟩
  have S1 := S1.perm (List.perm_append_singleton (bd, ob) [(td, ot), (c, oc)])
  (with_reducible refine x_ret ?_; refine OpQ.out ‹_› ?_)
  refine x_end0 S1 ⟨rfl, k, ?_⟩
  rw [gtxt_length ⟨hb.1, hb.2.1, hb.2.2.1⟩]
theorem bcodes_spec (B : Base (A0.heap_1_1 w.params) G mg mb) {b bd t td ms msd rw ls c : Addr} {ob ot oc : Obj} {cells : List Int} {a e p z x y : Int} {t4 t5 : Tok} (hx : BufG w.params g b bd t td ms msd rw ls) (ha : BufO w.params ob t ms ls p z) (hg : GapO w.params ot oc c cells a e) (hxy : 1 ≤ x ∧ x ≤ y ∧ y ≤ (gtxt cells a e).length + 1) :
    Fn PG w (.ref 478) 12 [.ref b, .int x t4, .int y t5] G H g [(bd, ob), (td, ot), (c, oc)] (fun v g' W' => W' = [(bd, ob), (td, ot), (c, oc)] ∧ (Ex1 fun r => An2 (v = .ref r) (IntsAt g' r (sl (gtxt cells a e) (x - 1) (y - 1))))) := by
  refine fn_def [("self", .ref b), ("start", .int x t4), ("end", .int y t5)] ["self", "start", "end"] [] [some (.ref b), some (.int x t4), some (.int y t5)] (more := []) B (by k_is) (by k_is) (fun s _ => BindsTo.of_eq rfl) rfl rfl (by decide +kernel) ?_
  intro A h gs dr tk os L R sc S
  have hgg := hg
  obtain ⟨bi, ti, mi, ma, la⟩ := hx
  obtain ⟨_, _, _, _, _, _, _, _, _, _, _, _, ha⟩ := ha
  obtain ⟨⟨t1, t2, t3, hga⟩, hc, hb⟩ := hg
  have hl := gtxt_length (cells := cells) (a := a) (b := e) ⟨hb.1, hb.2.1, hb.2.2.1⟩
  (with_reducible refine OpAll.all ?_; intro _ _; refine x_cons ?_; refine wpAny_Return_some ?_; refine MethodCall_ ?_ (by with_unfolding_all rfl); refine Attribute_any_ ?_ (by with_unfolding_all rfl); refine r_loc ‹_› ‹_› (by kun_count) ?_; refine' r_get ?a118x1 ?a118x2 ?a118x3 ?a118x4 ?a118x5 ?a118x6 ?a118x7 ?_; (case a118x1 => assumption); (case a118x2 => assumption); (case a118x4 => kso_lit); (case a118x3 => exact co_Buffer); (case a118x5 => kso_lit); (case a118x6 => kic_val); (case a118x7 => with_unfolding_all rfl); refine' r_meth ?a119x1 ?a119x2 ?a119x3 ?a119x4 ?a119x5 ?a119x6 ?_; (case a119x1 => assumption); (case a119x2 => assumption); (case a119x4 => kso_lit); (case a119x3 => exact co_GapText); (case a119x5 => kso_lit); (case a119x6 => exact me_GapText_codes); refine r_cwB ‹_› kp_213 ?_ (by with_unfolding_all rfl) (by with_unfolding_all rfl); refine args_cons ?_ (by with_unfolding_all rfl); refine wpAny_BinOp ?_; refine r_loc ‹_› ‹_› (by kun_count) ?_; refine r_int ?_; refine r_sub ?_; refine args_cons ?_ (by with_unfolding_all rfl); refine wpAny_BinOp ?_; refine r_loc ‹_› ‹_› (by kun_count) ?_; refine r_int ?_; refine r_sub ?_; refine args_nil ?_; refine r_le ‹_› (by rfl) ?_)
  refine r_call S (List.perm_append_singleton (bd, ob) [(td, ot), (c, oc)]).symm (gcodes_spec B ti hgg ⟨by (first | lia | omega), by (first | lia | omega), by (first | lia | omega)⟩) R (by decide) ?_
  rintro _ h1 tk1 g1 _ hle1 S1 ⟨rfl, r, rfl, hr⟩
  have S1 := S1.perm (List.perm_append_singleton (bd, ob) [(td, ot), (c, oc)])
  (with_reducible refine x_ret ?_; refine OpQ.out ‹_› ?_)
  exact x_end0 S1 ⟨rfl, r, rfl, hr⟩
theorem bgoto_spec (B : Base (A0.heap_1_1 w.params) G mg mb) {b bd t td ms msd rw ls : Addr} {ob : Obj} {p z x : Int} {t4 : Tok} (hx : BufG w.params g b bd t td ms msd rw ls) (ha : BufO w.params ob t ms ls p z) (hxy : 1 ≤ x ∧ x ≤ z) :
    Fn PG w (.ref 485) 12 [.ref b, .int x t4] G H g [(bd, ob)] (fun _ _ W' => Ex1 fun ob' => An2 (W' = [(bd, ob')]) (BufO w.params ob' t ms ls x z)) := by
  refine fn_def [("self", .ref b), ("place", .int x t4)] ["self", "place"] ["min", "max"] [some (.ref b), some (.int x t4)] (more := []) B (by k_is) (by k_is) (fun s _ => BindsTo.of_eq rfl) rfl rfl (by decide +kernel) ?_
  intro A h gs dr tk os L R sc S
  obtain ⟨bi, ti, mi, ma, la⟩ := hx
  obtain ⟨_, _, _, _, _, _, _, _, _, _, _, _, ha⟩ := ha
  have e1 : min (max x 1) z = x := by (first | lia | omega)
  (with_reducible refine OpAll.all ?_; intro _ _; refine x_cons ?_; refine plainObj_wpAny_Assign_Attribute ?_ (by with_unfolding_all rfl); refine Call_ ?_ (by with_unfolding_all rfl); refine r_glob ‹_› ‹_› ‹_› (by lks_lit) g_min ?_; refine r_cwbA ?_ (by with_unfolding_all rfl) (by with_unfolding_all rfl); refine args_cons ?_ (by with_unfolding_all rfl); refine Call_ ?_ (by with_unfolding_all rfl); refine r_glob ‹_› ‹_› ‹_› (by lks_lit) g_max ?_; refine r_cwbA ?_ (by with_unfolding_all rfl) (by with_unfolding_all rfl); refine args_cons ?_ (by with_unfolding_all rfl); refine r_loc ‹_› ‹_› (by kun_count) ?_; refine args_cons ?_ (by with_unfolding_all rfl); refine Attribute_any_ ?_ (by with_unfolding_all rfl); refine r_loc ‹_› ‹_› (by kun_count) ?_; refine' r_get ?a120x1 ?a120x2 ?a120x3 ?a120x4 ?a120x5 ?a120x6 ?a120x7 ?_; (case a120x1 => assumption); (case a120x2 => assumption); (case a120x4 => kso_lit); (case a120x3 => exact co_Buffer); (case a120x5 => kso_lit); (case a120x6 => kic_val); (case a120x7 => with_unfolding_all rfl); refine args_nil ?_; refine r_max ‹_› ‹_› ?_; intro _ _ _ _; refine args_cons ?_ (by with_unfolding_all rfl); refine Attribute_any_ ?_ (by with_unfolding_all rfl); refine r_loc ‹_› ‹_› (by kun_count) ?_; refine' r_get ?a121x1 ?a121x2 ?a121x3 ?a121x4 ?a121x5 ?a121x6 ?a121x7 ?_; (case a121x1 => assumption); (case a121x2 => assumption); (case a121x4 => kso_lit); (case a121x3 => exact co_Buffer); (case a121x5 => kso_lit); (case a121x6 => kic_val); (case a121x7 => with_unfolding_all rfl); refine args_nil ?_; refine r_min ‹_› ‹_› ?_; intro _ _ _ _; refine r_loc ‹_› ‹_› (by kun_count) ?_; refine' r_set ?a122x1 ?a122x2 ?a122x3 ?a122x4 ?a122x5 ?a122x6 ?a122x7 ?_; (case a122x1 => assumption); (case a122x2 => assumption); (case a122x4 => kso_lit); (case a122x3 => exact co_Buffer); (case a122x5 => kxw_text); (case a122x6 => assumption); (case a122x7 => kctr_letter); intro _ _ _ _; refine x_next ?_; refine x_cons ?_; refine wpAny_Return_some ?_; refine Attribute_any_ ?_ (by with_unfolding_all rfl); refine r_loc ‹_› ‹_› (by kun_count) ?_; refine' r_get ?a123x1 ?a123x2 ?a123x3 ?a123x4 ?a123x5 ?a123x6 ?a123x7 ?_; (case a123x1 => assumption); (case a123x2 => assumption); (case a123x4 => kso_lit); (case a123x3 => exact co_Buffer); (case a123x5 => kso_lit); (case a123x6 => kic_val); (case a123x7 => with_unfolding_all rfl); refine x_ret ?_; refine OpQ.out ‹_› ?_)
  rw [e1] at *
  exact x_end0 (by assumption) ⟨_, rfl, _, _, _, _, _, _, _, _, _, _, _, _, by assumption⟩
theorem btouch_spec (B : Base (A0.heap_1_1 w.params) G mg mb) {b bd t td ms msd rw ls : Addr} {ob : Obj} {p z : Int} (hx : BufG w.params g b bd t td ms msd rw ls) (ha : BufO w.params ob t ms ls p z) :
    Fn PG w (.ref 513) 12 [.ref b, .bool true] G H g [(bd, ob)] (fun _ _ W' => Ex1 fun ob' => An2 (W' = [(bd, ob')]) (BufO w.params ob' t ms ls p z)) := by
  refine fn_def [("self", .ref b), ("are_codes", .bool true)] ["self", "are_codes"] [] [some (.ref b), some (.bool true)] (more := []) B (by k_is) (by k_is) (fun s _ => BindsTo.of_eq rfl) rfl rfl (by decide +kernel) ?_
  intro A h gs dr tk os L R sc S
  obtain ⟨bi, ti, mi, ma, la⟩ := hx
  obtain ⟨_, _, _, _, _, _, _, _, _, _, _, _, ha⟩ := ha
  (with_reducible refine OpAll.all ?_; intro _ _; refine x_cons ?_; refine plainObj_wpAny_Assign_Attribute ?_ (by with_unfolding_all rfl); refine wpAny_BinOp ?_; refine Attribute_any_ ?_ (by with_unfolding_all rfl); refine r_loc ‹_› ‹_› (by kun_count) ?_; refine' r_get ?a124x1 ?a124x2 ?a124x3 ?a124x4 ?a124x5 ?a124x6 ?a124x7 ?_; (case a124x1 => assumption); (case a124x2 => assumption); (case a124x4 => kso_lit); (case a124x3 => exact co_Buffer); (case a124x5 => kso_lit); (case a124x6 => kic_val); (case a124x7 => with_unfolding_all rfl); refine r_int ?_; refine r_add ?_; refine r_loc ‹_› ‹_› (by kun_count) ?_; refine' r_set ?a125x1 ?a125x2 ?a125x3 ?a125x4 ?a125x5 ?a125x6 ?a125x7 ?_; (case a125x1 => assumption); (case a125x2 => assumption); (case a125x4 => kso_lit); (case a125x3 => exact co_Buffer); (case a125x5 => kxw_text); (case a125x6 => assumption); (case a125x7 => kctr_letter); intro _ _ _ _; refine x_next ?_; refine x_cons ?_; refine wpAny_If ?_; refine wpAny_isTrue_value ?_ (by with_unfolding_all rfl); refine r_loc ‹_› ‹_› (by kun_count) ?_; refine wpAny_truthy_bool ?_; refine if_t ?_; refine x_cons ?_; refine plainObj_wpAny_Assign_Attribute ?_ (by with_unfolding_all rfl); refine Attribute_any_ ?_ (by with_unfolding_all rfl); refine r_loc ‹_› ‹_› (by kun_count) ?_; refine' r_get ?a126x1 ?a126x2 ?a126x3 ?a126x4 ?a126x5 ?a126x6 ?a126x7 ?_; (case a126x1 => assumption); (case a126x2 => assumption); (case a126x4 => kso_lit); (case a126x3 => exact co_Buffer); (case a126x5 => kso_lit); (case a126x6 => kic_val); (case a126x7 => with_unfolding_all rfl); refine r_loc ‹_› ‹_› (by kun_count) ?_; refine' r_set ?a127x1 ?a127x2 ?a127x3 ?a127x4 ?a127x5 ?a127x6 ?a127x7 ?_; (case a127x1 => assumption); (case a127x2 => assumption); (case a127x4 => kso_lit); (case a127x3 => exact co_Buffer); (case a127x5 => kxw_text); (case a127x6 => assumption); (case a127x7 => kctr_letter); intro _ _ _ _; refine x_next ?_; refine wpAny_execs_nil ?_; refine x_next ?_; refine wpAny_execs_nil ?_; refine OpQ.out ‹_› ?_)
  exact x_endN0 (by assumption) ⟨_, rfl, _, _, _, _, _, _, _, _, _, _, _, _, by assumption⟩
end
section
variable {w : World} {G H g : Heap} {mg mb : Str → Option Value}
noncomputable def TxtO (P : Params) (ot oc : Obj) (c : Addr) (txt : List Int) : Prop := Ex3 fun cells a e => An3 (GapO P ot oc c cells a e) (gtxt cells a e = txt) (cells.length ≤ 2 ^ 15)
/-- a place behind an edit -/
theorem BufG.lai {P : Params} {b bd t td ms msd rw ls : Addr} (x : BufG P g b bd t td ms msd rw ls) : IntsAt g ls [] := x.la.ints .nil
theorem writable_spec (B : Base (A0.heap_1_1 w.params) G mg mb) {b bd t td ms msd rw ls : Addr} {ob : Obj} {p z : Int} (hx : BufG w.params g b bd t td ms msd rw ls) (ha : BufO w.params ob t ms ls p z) :
    Fn PG w (.ref 48) 10 [.ref b] G H g [(bd, ob)] (fun _ _ W' => W' = [(bd, ob)]) := by
  refine fn_def [("buffer", .ref b)] ["buffer"] ["LispSignal"] [some (.ref b)] (more := []) B (by k_is) (by k_is) (fun s _ => BindsTo.of_eq rfl) rfl rfl (by decide +kernel) ?_
  intro A h gs dr tk os L R sc S
  obtain ⟨bi, ti, mi, ma, la⟩ := hx
  obtain ⟨_, _, _, _, _, _, _, _, _, _, _, _, ha⟩ := ha
  (with_reducible refine OpAll.all ?_; intro _ _; refine x_cons ?_; refine wpAny_If ?_; refine wpAny_isTrue_value ?_ (by with_unfolding_all rfl); refine Attribute_any_ ?_ (by with_unfolding_all rfl); refine r_loc ‹_› ‹_› (by kun_count) ?_; refine' r_get ?a128x1 ?a128x2 ?a128x3 ?a128x4 ?a128x5 ?a128x6 ?a128x7 ?_; (case a128x1 => assumption); (case a128x2 => assumption); (case a128x4 => kso_lit); (case a128x3 => exact co_Buffer); (case a128x5 => kso_lit); (case a128x6 => kic_val); (case a128x7 => with_unfolding_all rfl); refine wpAny_truthy_bool ?_; refine if_f ?_; refine wpAny_execs_nil ?_; refine x_next ?_; refine wpAny_execs_nil ?_; refine OpQ.out ‹_› ?_)
  exact x_endN0 (by assumption) rfl
theorem room_spec (B : Base (A0.heap_1_1 w.params) G mg mb) {b bd t td ms msd rw ls c : Addr} {ob ot oc : Obj} {txt : List Int} {p z n : Int} {t1 : Tok} (hx : BufG w.params g b bd t td ms msd rw ls) (ha : BufO w.params ob t ms ls p z) (hg : TxtO w.params ot oc c txt) (hn : txt.length + n ≤ 4000) :
    Fn PG w (.ref 55) 14 [.ref b, .int n t1] G H g [(bd, ob), (td, ot), (c, oc)] (fun _ _ W' => W' = [(bd, ob), (td, ot), (c, oc)]) := by
  refine fn_def [("buffer", .ref b), ("growth", .int n t1)] ["buffer", "growth"] ["LONGEST"] [some (.ref b), some (.int n t1)] (more := []) B (by k_is) (by k_is) (fun s _ => BindsTo.of_eq rfl) rfl rfl (by decide +kernel) ?_
  intro A h gs dr tk os L R sc S
  have hx' := hx
  have ha' := ha
  obtain ⟨bi, ti, mi, ma, la⟩ := hx
  obtain ⟨_, _, _, _, _, _, _, _, _, _, _, _, ha⟩ := ha
  obtain ⟨cells, a, e, hg, rfl, hl⟩ := hg
  (with_reducible refine OpAll.all ?_; intro _ _; refine x_cons ?_; refine wpAny_If ?_; refine wpAny_isTrue_Compare1 ?_ (by with_unfolding_all rfl); refine wpAny_BinOp ?_; refine MethodCall_ ?_ (by with_unfolding_all rfl); refine r_loc ‹_› ‹_› (by kun_count) ?_; refine' r_meth ?a129x1 ?a129x2 ?a129x3 ?a129x4 ?a129x5 ?a129x6 ?_; (case a129x1 => assumption); (case a129x2 => assumption); (case a129x4 => kso_lit); (case a129x3 => exact co_Buffer); (case a129x5 => kso_lit); (case a129x6 => exact me_Buffer_size); refine r_cw0B ‹_› ‹_› kp_464 ?_)
  refine r_call0 S (bsize_spec B hx' ha' hg) R (by decide) ?_
  rintro _ h1 tk1 g1 _ hle1 S1 ⟨rfl, k, rfl⟩
  (with_reducible refine r_loc ‹_› ‹_› (by kun_count) ?_; refine r_add ?_; refine r_glob ‹_› ‹_› ‹_› (by lks_lit) g_LONGEST ?_; refine r_gt ?_; refine wpAny_truthy_bool ?_; refine if_dec ?_ ?_ <;> intro _; refine x_cons ?_; rotate_left; refine wpAny_execs_nil ?_; refine x_next ?_; refine wpAny_execs_nil ?_; refine OpQ.out ‹_› ?_; rotate_left)
  · exfalso; (first | lia | omega)
  · exact x_endN0 (by assumption) rfl
theorem reached_spec (B : Base (A0.heap_1_1 w.params) G mg mb) {b bd t td ms msd rw ls : Addr} {ob : Obj} {p z x y : Int} {t1 t2 : Tok} (hx : BufG w.params g b bd t td ms msd rw ls) (ha : BufO w.params ob t ms ls p z) (hn : 1 ≤ x ∧ x ≤ y ∧ y ≤ z) :
    Fn PG w (.ref 62) 10 [.ref b, .int x t1, .int y t2] G H g [(bd, ob)] (fun v g' W' => Ex3 fun r u1 u2 => An3 (v = .ref r) (TupAt g' r [.int x u1, .int y u2]) (W' = [(bd, ob)])) := by
  refine fn_def [("buffer", .ref b), ("start", .int x t1), ("end", .int y t2)] ["buffer", "start", "end", "low", "high"] ["min", "max", "LispSignal"] [some (.ref b), some (.int x t1), some (.int y t2), none, none] (more := ["low", "high"]) B (by k_is) (by k_is) (fun s _ => BindsTo.of_eq rfl) rfl rfl (by decide +kernel) ?_
  intro A h gs dr tk os L R sc S
  obtain ⟨bi, ti, mi, ma, la⟩ := hx
  obtain ⟨_, _, _, _, _, _, _, _, _, _, _, _, ha⟩ := ha
  have e1 : min x y = x := by (first | lia | omega)
  have e2 : max x y = y := by (first | lia | omega)
  (with_reducible refine OpAll.all ?_; intro _ _; refine x_cons ?_; refine x_swap2 ?_ (by with_unfolding_all rfl) (by with_unfolding_all rfl); refine Tuple_ ?_; refine args_cons ?_ (by with_unfolding_all rfl); refine Call_ ?_ (by with_unfolding_all rfl); refine r_glob ‹_› ‹_› ‹_› (by lks_lit) g_min ?_; refine r_cwbA ?_ (by with_unfolding_all rfl) (by with_unfolding_all rfl); refine args_cons ?_ (by with_unfolding_all rfl); refine r_loc ‹_› ‹_› (by kun_count) ?_; refine args_cons ?_ (by with_unfolding_all rfl); refine r_loc ‹_› ‹_› (by kun_count) ?_; refine args_nil ?_; refine r_min ‹_› ‹_› ?_; intro _ _ _ _; refine args_cons ?_ (by with_unfolding_all rfl); refine Call_ ?_ (by with_unfolding_all rfl); refine r_glob ‹_› ‹_› ‹_› (by lks_lit) g_max ?_; refine r_cwbA ?_ (by with_unfolding_all rfl) (by with_unfolding_all rfl); refine args_cons ?_ (by with_unfolding_all rfl); refine r_loc ‹_› ‹_› (by kun_count) ?_; refine args_cons ?_ (by with_unfolding_all rfl); refine r_loc ‹_› ‹_› (by kun_count) ?_; refine args_nil ?_; refine r_max ‹_› ‹_› ?_; intro _ _ _ _; refine args_nil ?_; refine r_swap2 ‹_› ‹_› ?_; intro _ _; refine r_swpN ?_; refine r_store ‹_› ‹_› (by kxw_int) ?_; intro _ _; refine r_swpN ?_; refine r_store ‹_› ‹_› (by kxw_int) ?_; intro _ _; refine r_swp0 ?_; refine x_next ?_; refine x_cons ?_; refine wpAny_If ?_; refine isTrue_or ?_; refine wpAny_isTrue_Compare1 ?_ (by with_unfolding_all rfl); refine r_loc ‹_› ‹_› (by kun_count) ?_; refine Attribute_any_ ?_ (by with_unfolding_all rfl); refine r_loc ‹_› ‹_› (by kun_count) ?_; refine' r_get ?a130x1 ?a130x2 ?a130x3 ?a130x4 ?a130x5 ?a130x6 ?a130x7 ?_; (case a130x1 => assumption); (case a130x2 => assumption); (case a130x4 => kso_lit); (case a130x3 => exact co_Buffer); (case a130x5 => kso_lit); (case a130x6 => kic_val); (case a130x7 => with_unfolding_all rfl); refine r_lt ?_; refine wpAny_truthy_bool ?_; refine if_dec ?_ ?_ <;> intro _; refine if_t ?_; refine x_cons ?_; rotate_left; refine isTrue_or ?_; refine wpAny_isTrue_Compare1 ?_ (by with_unfolding_all rfl); refine r_loc ‹_› ‹_› (by kun_count) ?_; refine Attribute_any_ ?_ (by with_unfolding_all rfl); refine r_loc ‹_› ‹_› (by kun_count) ?_; refine' r_get ?a131x1 ?a131x2 ?a131x3 ?a131x4 ?a131x5 ?a131x6 ?a131x7 ?_; (case a131x1 => assumption); (case a131x2 => assumption); (case a131x4 => kso_lit); (case a131x3 => exact co_Buffer); (case a131x5 => kso_lit); (case a131x6 => kic_val); (case a131x7 => with_unfolding_all rfl); refine r_gt ?_; refine wpAny_truthy_bool ?_; refine if_dec ?_ ?_ <;> intro _; refine if_t ?_; refine x_cons ?_; rotate_left; refine isTrue_or_nil ?_; refine if_f ?_; refine wpAny_execs_nil ?_; refine x_next ?_; refine x_cons ?_; refine wpAny_Return_some ?_; refine Tuple_ ?_; refine args_cons ?_ (by with_unfolding_all rfl); refine r_loc ‹_› ‹_› (by kun_count) ?_; refine args_cons ?_ (by with_unfolding_all rfl); refine r_loc ‹_› ‹_› (by kun_count) ?_; refine args_nil ?_; rotate_left)
  all_goals first | (exfalso; (first | lia | omega)) | skip

  refine r_tupI (S := by assumption) ?_
  intro r h1 g1 hle hr S1
  rw [e1, e2] at hr
  (with_reducible refine x_ret ?_; refine OpQ.out ‹_› ?_)
  exact x_end0 (by assumption) ⟨r, _, _, rfl, hr, rfl⟩
theorem ahead_spec (B : Base (A0.heap_1_1 w.params) G mg mb) {b bd t td ms msd rw ls : Addr} {ob : Obj} {p z x y : Int} {t1 t2 : Tok} (hx : BufG w.params g b bd t td ms msd rw ls) (ha : BufO w.params ob t ms ls p z) :
    Fn PG w (.ref 69) 10 [.ref b, .int x t1, .int y t2] G H g [(bd, ob)] (fun _ _ W' => W' = [(bd, ob)]) := by
  refine fn_def [("buffer", .ref b), ("start", .int x t1), ("end", .int y t2)] ["buffer", "start", "end", "listener"] ["list"] [some (.ref b), some (.int x t1), some (.int y t2), none] (more := ["listener"]) B (by k_is) (by k_is) (fun s _ => BindsTo.of_eq rfl) rfl rfl (by decide +kernel) ?_
  intro A h gs dr tk os L R sc S
  have hl := hx.lai
  obtain ⟨bi, ti, mi, ma, la⟩ := hx
  obtain ⟨_, _, _, _, _, _, _, _, _, _, _, _, ha⟩ := ha
  (with_reducible refine OpAll.all ?_; intro _ _; refine x_cons ?_; refine x_for ?_ (by intro _; with_unfolding_all rfl); refine Call_ ?_ (by with_unfolding_all rfl); refine r_glob ‹_› ‹_› ‹_› (by lks_lit) g_list ?_; refine r_cwt ?_ (by with_unfolding_all rfl) (by with_unfolding_all rfl); refine args_cons ?_ (by with_unfolding_all rfl); refine Attribute_any_ ?_ (by with_unfolding_all rfl); refine r_loc ‹_› ‹_› (by kun_count) ?_; refine' r_get ?a132x1 ?a132x2 ?a132x3 ?a132x4 ?a132x5 ?a132x6 ?a132x7 ?_; (case a132x1 => assumption); (case a132x2 => assumption); (case a132x4 => kso_lit); (case a132x3 => exact co_Buffer); (case a132x5 => kso_lit); (case a132x6 => kic_val); (case a132x7 => with_unfolding_all rfl); refine args_nil ?_; refine r_listOfI ‹_› (by kso_lit) (by kpa_letter) ?_; intro _ _ _ _ _ _; refine r_for0I ‹_› ‹_› (by kun_lit) ?_; intro _ _ _; refine x_next ?_; refine wpAny_execs_nil ?_; refine OpQ.out ‹_› ?_)
  exact x_endN0 (by assumption) rfl
theorem behind_spec (B : Base (A0.heap_1_1 w.params) G mg mb) {b bd t td ms msd rw ls : Addr} {ob : Obj} {p z x y n : Int} {t1 t2 t3 : Tok} (hx : BufG w.params g b bd t td ms msd rw ls) (ha : BufO w.params ob t ms ls p z) :
    Fn PG w (.ref 76) 14 [.ref b, .int x t1, .int y t2, .int n t3] G H g [(bd, ob)] (fun _ _ W' => Ex1 fun ob' => An2 (W' = [(bd, ob')]) (BufO w.params ob' t ms ls p z)) := by
  refine fn_def [("buffer", .ref b), ("start", .int x t1), ("end", .int y t2), ("old_length", .int n t3)] ["buffer", "start", "end", "old_length", "listener"] ["list"] [some (.ref b), some (.int x t1), some (.int y t2), some (.int n t3), none] (more := ["listener"]) B (by k_is) (by k_is) (fun s _ => BindsTo.of_eq rfl) rfl rfl (by decide +kernel) ?_
  intro A h gs dr tk os L R sc S
  have hx' := hx
  have ha' := ha
  have hl := hx.lai
  obtain ⟨bi, ti, mi, ma, la⟩ := hx
  obtain ⟨_, _, _, _, _, _, _, _, _, _, _, _, ha⟩ := ha
  (with_reducible refine OpAll.all ?_; intro _ _; refine x_cons ?_; refine x_expr ‹_› ?_ (by with_unfolding_all rfl); refine MethodCall_ ?_ (by with_unfolding_all rfl); refine r_loc ‹_› ‹_› (by kun_count) ?_; refine' r_meth ?a133x1 ?a133x2 ?a133x3 ?a133x4 ?a133x5 ?a133x6 ?_; (case a133x1 => assumption); (case a133x2 => assumption); (case a133x4 => kso_lit); (case a133x3 => exact co_Buffer); (case a133x5 => kso_lit); (case a133x6 => exact me_Buffer_touch); refine r_cwB ‹_› kp_513 ?_ (by with_unfolding_all rfl) (by with_unfolding_all rfl); refine args_cons ?_ (by with_unfolding_all rfl); refine wpAny_Constant_bool ?_; refine args_nil ?_; refine r_le ‹_› (by rfl) ?_)
  refine r_call0 S (btouch_spec B hx' ha') R (by decide) ?_
  rintro _ h1 tk1 g1 _ hle1 S1 ⟨ob1, rfl, ha1⟩
  have ha1' := ha1
  obtain ⟨_, _, _, _, _, _, _, _, _, _, _, _, ha1⟩ := ha1
  (with_reducible refine x_next ?_; refine x_cons ?_; refine x_for ?_ (by intro _; with_unfolding_all rfl); refine Call_ ?_ (by with_unfolding_all rfl); refine r_glob ‹_› ‹_› ‹_› (by lks_lit) g_list ?_; refine r_cwt ?_ (by with_unfolding_all rfl) (by with_unfolding_all rfl); refine args_cons ?_ (by with_unfolding_all rfl); refine Attribute_any_ ?_ (by with_unfolding_all rfl); refine r_loc ‹_› ‹_› (by kun_count) ?_; refine' r_get ?a134x1 ?a134x2 ?a134x3 ?a134x4 ?a134x5 ?a134x6 ?a134x7 ?_; (case a134x1 => assumption); (case a134x2 => assumption); (case a134x4 => kso_lit); (case a134x3 => exact co_Buffer); (case a134x5 => kso_lit); (case a134x6 => kic_val); (case a134x7 => with_unfolding_all rfl); refine args_nil ?_; refine r_listOfI ‹_› (by kso_lit) (by kpa_letter) ?_; intro _ _ _ _ _ _; refine r_for0I ‹_› ‹_› (by kun_lit) ?_; intro _ _ _; refine x_next ?_; refine wpAny_execs_nil ?_; refine OpQ.out ‹_› ?_)
  exact x_endN0 (by assumption) ⟨_, rfl, ha1'⟩
theorem out_spec (B : Base (A0.heap_1_1 w.params) G mg mb) {b bd t td ms msd rw ls c : Addr} {ob ot oc : Obj} {txt : List Int} {p z x y : Int} {t1 t2 : Tok} (hx : BufG w.params g b bd t td ms msd rw ls) (ha : BufO w.params ob t ms ls p z) (hg : TxtO w.params ot oc c txt) (hn : 1 ≤ x ∧ x ≤ y ∧ y ≤ txt.length + 1) :
    Fn PG w (.ref 83) 14 [.ref b, .int x t1, .int y t2] G H g [(bd, ob), (td, ot), (c, oc)] (fun _ _ W' => Ex4 fun ob' ot' oc' p' => An4 (W' = [(bd, ob'), (td, ot'), (c, oc')]) (BufO w.params ob' t ms ls p' (z - (y - x))) (TxtO w.params ot' oc' c (txt.take (x - 1).toNat ++ txt.drop (y - 1).toNat)) (p' = if x < p then max x (p - (y - x)) else p)) := by
  refine fn_def [("buffer", .ref b), ("start", .int x t1), ("end", .int y t2)] ["buffer", "start", "end", "gone"] ["max"] [some (.ref b), some (.int x t1), some (.int y t2), none] (more := ["gone"]) B (by k_is) (by k_is) (fun s _ => BindsTo.of_eq rfl) rfl rfl (by decide +kernel) ?_
  intro A h gs dr tk os L R sc S
  obtain ⟨bi, ti, mi, ma, la⟩ := hx
  obtain ⟨_, _, _, _, _, _, _, _, _, _, _, _, ha⟩ := ha
  obtain ⟨cells, a, e, hg, rfl, hl⟩ := hg
  have hb := hg.2.2
  have hga := hg.1
  obtain ⟨_, _, _, hga⟩ := hga
  have hlen := gtxt_length (cells := cells) (a := a) (b := e) ⟨hb.1, hb.2.1, hb.2.2.1⟩
  (with_reducible refine OpAll.all ?_; intro _ _; refine x_cons ?_; refine wpAny_If ?_; refine wpAny_isTrue_Compare1 ?_ (by with_unfolding_all rfl); refine Attribute_any_ ?_ (by with_unfolding_all rfl); refine r_loc ‹_› ‹_› (by kun_count) ?_; refine' r_get ?a135x1 ?a135x2 ?a135x3 ?a135x4 ?a135x5 ?a135x6 ?a135x7 ?_; (case a135x1 => assumption); (case a135x2 => assumption); (case a135x4 => kso_lit); (case a135x3 => exact co_Buffer); (case a135x5 => kso_lit); (case a135x6 => kic_val); (case a135x7 => with_unfolding_all rfl); refine wpAny_Constant_none ?_; refine r_isNN ?_; refine wpAny_truthy_bool ?_; refine if_f ?_; refine wpAny_execs_nil ?_; refine x_next ?_; refine x_cons ?_; refine x_assign ?_ (by with_unfolding_all rfl); refine MethodCall_ ?_ (by with_unfolding_all rfl); refine Attribute_any_ ?_ (by with_unfolding_all rfl); refine r_loc ‹_› ‹_› (by kun_count) ?_; refine' r_get ?a136x1 ?a136x2 ?a136x3 ?a136x4 ?a136x5 ?a136x6 ?a136x7 ?_; (case a136x1 => assumption); (case a136x2 => assumption); (case a136x4 => kso_lit); (case a136x3 => exact co_Buffer); (case a136x5 => kso_lit); (case a136x6 => kic_val); (case a136x7 => with_unfolding_all rfl); refine' r_meth ?a137x1 ?a137x2 ?a137x3 ?a137x4 ?a137x5 ?a137x6 ?_; (case a137x1 => assumption); (case a137x2 => assumption); (case a137x4 => kso_lit); (case a137x3 => exact co_GapText); (case a137x5 => kso_lit); (case a137x6 => exact me_GapText_delete); refine r_cwB ‹_› kp_241 ?_ (by with_unfolding_all rfl) (by with_unfolding_all rfl); refine args_cons ?_ (by with_unfolding_all rfl); refine wpAny_BinOp ?_; refine r_loc ‹_› ‹_› (by kun_count) ?_; refine r_int ?_; refine r_sub ?_; refine args_cons ?_ (by with_unfolding_all rfl); refine wpAny_BinOp ?_; refine r_loc ‹_› ‹_› (by kun_count) ?_; refine r_int ?_; refine r_sub ?_; refine args_nil ?_; refine r_le ‹_› (by rfl) ?_)
  refine r_call S (List.perm_append_singleton (bd, ob) [(td, ot), (c, oc)]).symm (gdelete_spec B ti hg (x := x - 1) (y := y - 1) ⟨by (first | lia | omega), by (first | lia | omega), by (first | lia | omega)⟩) R (by decide) ?_
  rintro _ h1 tk1 g1 _ hle1 S1 ⟨r, ot1, oc1, cells1, a1, e1, rfl, hr, rfl, hg1, ht1, hl1⟩
  have S1 := S1.perm (List.perm_append_singleton (bd, ob) [(td, ot1), (c, oc1)])
  (with_reducible refine r_store ‹_› ‹_› (by kxw_int) ?_; intro _ _; refine x_next ?_; refine x_cons ?_; refine plainObj_wpAny_Assign_Attribute ?_ (by with_unfolding_all rfl); refine wpAny_BinOp ?_; refine Attribute_any_ ?_ (by with_unfolding_all rfl); refine r_loc ‹_› ‹_› (by kun_count) ?_; refine' r_get ?a138x1 ?a138x2 ?a138x3 ?a138x4 ?a138x5 ?a138x6 ?a138x7 ?_; (case a138x1 => assumption); (case a138x2 => assumption); (case a138x4 => kso_lit); (case a138x3 => exact co_Buffer); (case a138x5 => kso_lit); (case a138x6 => kic_val); (case a138x7 => with_unfolding_all rfl); refine wpAny_BinOp ?_; refine r_loc ‹_› ‹_› (by kun_count) ?_; refine r_loc ‹_› ‹_› (by kun_count) ?_; refine r_sub ?_; refine r_sub ?_; refine r_loc ‹_› ‹_› (by kun_count) ?_; refine' r_set ?a139x1 ?a139x2 ?a139x3 ?a139x4 ?a139x5 ?a139x6 ?a139x7 ?_; (case a139x1 => assumption); (case a139x2 => assumption); (case a139x4 => kso_lit); (case a139x3 => exact co_Buffer); (case a139x5 => kxw_text); (case a139x6 => assumption); (case a139x7 => kctr_letter); intro _ _ _ _; refine x_next ?_; refine x_cons ?_; refine wpAny_If ?_; refine wpAny_isTrue_Compare1 ?_ (by with_unfolding_all rfl); refine Attribute_any_ ?_ (by with_unfolding_all rfl); refine r_loc ‹_› ‹_› (by kun_count) ?_; refine' r_get ?a140x1 ?a140x2 ?a140x3 ?a140x4 ?a140x5 ?a140x6 ?a140x7 ?_; (case a140x1 => assumption); (case a140x2 => assumption); (case a140x4 => kso_lit); (case a140x3 => exact co_Buffer); (case a140x5 => kso_lit); (case a140x6 => kic_val); (case a140x7 => with_unfolding_all rfl); refine r_loc ‹_› ‹_› (by kun_count) ?_; refine r_gt ?_; refine wpAny_truthy_bool ?_; refine if_dec ?_ ?_ <;> intro _; refine x_cons ?_; refine plainObj_wpAny_Assign_Attribute ?_ (by with_unfolding_all rfl); refine Call_ ?_ (by with_unfolding_all rfl); refine r_glob ‹_› ‹_› ‹_› (by lks_lit) g_max ?_; refine r_cwbA ?_ (by with_unfolding_all rfl) (by with_unfolding_all rfl); refine args_cons ?_ (by with_unfolding_all rfl); refine r_loc ‹_› ‹_› (by kun_count) ?_; refine args_cons ?_ (by with_unfolding_all rfl); refine wpAny_BinOp ?_; refine Attribute_any_ ?_ (by with_unfolding_all rfl); refine r_loc ‹_› ‹_› (by kun_count) ?_; refine' r_get ?a141x1 ?a141x2 ?a141x3 ?a141x4 ?a141x5 ?a141x6 ?a141x7 ?_; (case a141x1 => assumption); (case a141x2 => assumption); (case a141x4 => kso_lit); (case a141x3 => exact co_Buffer); (case a141x5 => kso_lit); (case a141x6 => kic_val); (case a141x7 => with_unfolding_all rfl); refine wpAny_BinOp ?_; refine r_loc ‹_› ‹_› (by kun_count) ?_; refine r_loc ‹_› ‹_› (by kun_count) ?_; refine r_sub ?_; refine r_sub ?_; refine args_nil ?_; refine r_max ‹_› ‹_› ?_; intro _ _ _ _; refine r_loc ‹_› ‹_› (by kun_count) ?_; refine' r_set ?a142x1 ?a142x2 ?a142x3 ?a142x4 ?a142x5 ?a142x6 ?a142x7 ?_; (case a142x1 => assumption); (case a142x2 => assumption); (case a142x4 => kso_lit); (case a142x3 => exact co_Buffer); (case a142x5 => kxw_text); (case a142x6 => assumption); (case a142x7 => kctr_letter); intro _ _ _ _; refine x_next ?_; refine wpAny_execs_nil ?_; refine x_next ?_; refine x_cons ?_; refine wpAny_Return_some ?_; refine r_loc ‹_› ‹_› (by kun_count) ?_; refine x_ret ?_; refine OpQ.out ‹_› ?_; rotate_left; refine wpAny_execs_nil ?_; refine x_next ?_; refine x_cons ?_; refine wpAny_Return_some ?_; refine r_loc ‹_› ‹_› (by kun_count) ?_; refine x_ret ?_; refine OpQ.out ‹_› ?_; rotate_left)
  · exact x_end0 (by assumption) ⟨_, _, _, _, rfl, ⟨_, _, _, _, _, _, _, _, _, _, _, _, by assumption⟩, ⟨_, _, _, hg1, ht1, by (first | lia | omega)⟩, by rw [if_pos (by assumption)]⟩
  · exact x_end0 (by assumption) ⟨_, _, _, _, rfl, ⟨_, _, _, _, _, _, _, _, _, _, _, _, by assumption⟩, ⟨_, _, _, hg1, ht1, by (first | lia | omega)⟩, by rw [if_neg (by assumption)]⟩
theorem in_spec (B : Base (A0.heap_1_1 w.params) G mg mb) {b bd t td ms msd rw ls c n : Addr} {ob ot oc : Obj} {txt ns : List Int} {p z x : Int} {t1 : Tok} (hx : BufG w.params g b bd t td ms msd rw ls) (ha : BufO w.params ob t ms ls p z) (hg : TxtO w.params ot oc c txt) (hns : IntsAt g n ns) (hn : 1 ≤ x ∧ x ≤ txt.length + 1 ∧ ns.length ≤ 900 ∧ txt.length ≤ 3000) :
    Fn PG w (.ref 90) 16 [.ref b, .int x t1, .ref n] G H g [(bd, ob), (td, ot), (c, oc)] (fun _ _ W' => Ex4 fun ob' ot' oc' p' => An4 (W' = [(bd, ob'), (td, ot'), (c, oc')]) (BufO w.params ob' t ms ls p' (z + ns.length)) (TxtO w.params ot' oc' c (rep txt x x ns)) (p' = if x < p then p + ns.length else p)) := by
  refine fn_def [("buffer", .ref b), ("place", .int x t1), ("codes", .ref n)] ["buffer", "place", "codes"] ["len"] [some (.ref b), some (.int x t1), some (.ref n)] (more := []) B (by k_is) (by k_is) (fun s _ => BindsTo.of_eq rfl) rfl rfl (by decide +kernel) ?_
  intro A h gs dr tk os L R sc S
  obtain ⟨bi, ti, mi, ma, la⟩ := hx
  obtain ⟨_, _, _, _, _, _, _, _, _, _, _, _, ha⟩ := ha
  obtain ⟨cells, a, e, hg, rfl, hl⟩ := hg
  have hb := hg.2.2
  have hga := hg.1
  obtain ⟨_, _, _, hga⟩ := hga
  have hlen := gtxt_length (cells := cells) (a := a) (b := e) ⟨hb.1, hb.2.1, hb.2.2.1⟩
  (with_reducible refine OpAll.all ?_; intro _ _; refine x_cons ?_; refine wpAny_If ?_; refine wpAny_isTrue_Compare1 ?_ (by with_unfolding_all rfl); refine Attribute_any_ ?_ (by with_unfolding_all rfl); refine r_loc ‹_› ‹_› (by kun_count) ?_; refine' r_get ?a143x1 ?a143x2 ?a143x3 ?a143x4 ?a143x5 ?a143x6 ?a143x7 ?_; (case a143x1 => assumption); (case a143x2 => assumption); (case a143x4 => kso_lit); (case a143x3 => exact co_Buffer); (case a143x5 => kso_lit); (case a143x6 => kic_val); (case a143x7 => with_unfolding_all rfl); refine wpAny_Constant_none ?_; refine r_isNN ?_; refine wpAny_truthy_bool ?_; refine if_f ?_; refine wpAny_execs_nil ?_; refine x_next ?_; refine x_cons ?_; refine x_expr ‹_› ?_ (by with_unfolding_all rfl); refine MethodCall_ ?_ (by with_unfolding_all rfl); refine Attribute_any_ ?_ (by with_unfolding_all rfl); refine r_loc ‹_› ‹_› (by kun_count) ?_; refine' r_get ?a144x1 ?a144x2 ?a144x3 ?a144x4 ?a144x5 ?a144x6 ?a144x7 ?_; (case a144x1 => assumption); (case a144x2 => assumption); (case a144x4 => kso_lit); (case a144x3 => exact co_Buffer); (case a144x5 => kso_lit); (case a144x6 => kic_val); (case a144x7 => with_unfolding_all rfl); refine' r_meth ?a145x1 ?a145x2 ?a145x3 ?a145x4 ?a145x5 ?a145x6 ?_; (case a145x1 => assumption); (case a145x2 => assumption); (case a145x4 => kso_lit); (case a145x3 => exact co_GapText); (case a145x5 => kso_lit); (case a145x6 => exact me_GapText_insert); refine r_cwB ‹_› kp_234 ?_ (by with_unfolding_all rfl) (by with_unfolding_all rfl); refine args_cons ?_ (by with_unfolding_all rfl); refine wpAny_BinOp ?_; refine r_loc ‹_› ‹_› (by kun_count) ?_; refine r_int ?_; refine r_sub ?_; refine args_cons ?_ (by with_unfolding_all rfl); refine r_loc ‹_› ‹_› (by kun_count) ?_; refine args_nil ?_; refine r_le ‹_› (by rfl) ?_)
  refine r_call S (List.perm_append_singleton (bd, ob) [(td, ot), (c, oc)]).symm (ginsert_spec B ti hg hns (x := x - 1) ⟨by (first | lia | omega), by (first | lia | omega), by (first | lia | omega), by (first | lia | omega)⟩) R (by decide) ?_
  rintro _ h1 tk1 g1 _ hle1 S1 ⟨rfl, ot1, oc1, cells1, a1, e1, rfl, hg1, ht1, hl1⟩
  have S1 := S1.perm (List.perm_append_singleton (bd, ob) [(td, ot1), (c, oc1)])
  (with_reducible refine x_next ?_; refine x_cons ?_; refine plainObj_wpAny_Assign_Attribute ?_ (by with_unfolding_all rfl); refine wpAny_BinOp ?_; refine Attribute_any_ ?_ (by with_unfolding_all rfl); refine r_loc ‹_› ‹_› (by kun_count) ?_; refine' r_get ?a146x1 ?a146x2 ?a146x3 ?a146x4 ?a146x5 ?a146x6 ?a146x7 ?_; (case a146x1 => assumption); (case a146x2 => assumption); (case a146x4 => kso_lit); (case a146x3 => exact co_Buffer); (case a146x5 => kso_lit); (case a146x6 => kic_val); (case a146x7 => with_unfolding_all rfl); refine Call_ ?_ (by with_unfolding_all rfl); refine r_glob ‹_› ‹_› ‹_› (by lks_lit) g_len ?_; refine r_cwbA ?_ (by with_unfolding_all rfl) (by with_unfolding_all rfl); refine args_cons ?_ (by with_unfolding_all rfl); refine r_loc ‹_› ‹_› (by kun_count) ?_; refine args_nil ?_; refine r_lenI (by kso_lit) (by kpa_letter) ?_; refine r_add ?_; refine r_loc ‹_› ‹_› (by kun_count) ?_; refine' r_set ?a147x1 ?a147x2 ?a147x3 ?a147x4 ?a147x5 ?a147x6 ?a147x7 ?_; (case a147x1 => assumption); (case a147x2 => assumption); (case a147x4 => kso_lit); (case a147x3 => exact co_Buffer); (case a147x5 => kxw_text); (case a147x6 => assumption); (case a147x7 => kctr_letter); intro _ _ _ _; refine x_next ?_; refine x_cons ?_; refine wpAny_If ?_; refine wpAny_isTrue_Compare1 ?_ (by with_unfolding_all rfl); refine Attribute_any_ ?_ (by with_unfolding_all rfl); refine r_loc ‹_› ‹_› (by kun_count) ?_; refine' r_get ?a148x1 ?a148x2 ?a148x3 ?a148x4 ?a148x5 ?a148x6 ?a148x7 ?_; (case a148x1 => assumption); (case a148x2 => assumption); (case a148x4 => kso_lit); (case a148x3 => exact co_Buffer); (case a148x5 => kso_lit); (case a148x6 => kic_val); (case a148x7 => with_unfolding_all rfl); refine r_loc ‹_› ‹_› (by kun_count) ?_; refine r_gt ?_; refine wpAny_truthy_bool ?_; refine if_dec ?_ ?_ <;> intro _; refine x_cons ?_; refine plainObj_wpAny_Assign_Attribute ?_ (by with_unfolding_all rfl); refine wpAny_BinOp ?_; refine Attribute_any_ ?_ (by with_unfolding_all rfl); refine r_loc ‹_› ‹_› (by kun_count) ?_; refine' r_get ?a149x1 ?a149x2 ?a149x3 ?a149x4 ?a149x5 ?a149x6 ?a149x7 ?_; (case a149x1 => assumption); (case a149x2 => assumption); (case a149x4 => kso_lit); (case a149x3 => exact co_Buffer); (case a149x5 => kso_lit); (case a149x6 => kic_val); (case a149x7 => with_unfolding_all rfl); refine Call_ ?_ (by with_unfolding_all rfl); refine r_glob ‹_› ‹_› ‹_› (by lks_lit) g_len ?_; refine r_cwbA ?_ (by with_unfolding_all rfl) (by with_unfolding_all rfl); refine args_cons ?_ (by with_unfolding_all rfl); refine r_loc ‹_› ‹_› (by kun_count) ?_; refine args_nil ?_; refine r_lenI (by kso_lit) (by kpa_letter) ?_; refine r_add ?_; refine r_loc ‹_› ‹_› (by kun_count) ?_; refine' r_set ?a150x1 ?a150x2 ?a150x3 ?a150x4 ?a150x5 ?a150x6 ?a150x7 ?_; (case a150x1 => assumption); (case a150x2 => assumption); (case a150x4 => kso_lit); (case a150x3 => exact co_Buffer); (case a150x5 => kxw_text); (case a150x6 => assumption); (case a150x7 => kctr_letter); intro _ _ _ _; refine x_next ?_; refine wpAny_execs_nil ?_; refine x_next ?_; refine wpAny_execs_nil ?_; refine OpQ.out ‹_› ?_; rotate_left; refine wpAny_execs_nil ?_; refine x_next ?_; refine wpAny_execs_nil ?_; refine OpQ.out ‹_› ?_; rotate_left)
  · exact x_endN0 (by assumption) ⟨_, _, _, _, rfl, ⟨_, _, _, _, _, _, _, _, _, _, _, _, by assumption⟩, ⟨_, _, _, hg1, ht1, by (first | lia | omega)⟩, by rw [if_pos (by assumption)]⟩
  · exact x_endN0 (by assumption) ⟨_, _, _, _, rfl, ⟨_, _, _, _, _, _, _, _, _, _, _, _, by assumption⟩, ⟨_, _, _, hg1, ht1, by (first | lia | omega)⟩, by rw [if_neg (by assumption)]⟩
theorem hungout_spec (B : Base (A0.heap_1_1 w.params) G mg mb) {b bd t td ms msd rw ls : Addr} {ob : Obj} {p z x y : Int} {t1 t2 : Tok} (hx : BufG w.params g b bd t td ms msd rw ls) (ha : BufO w.params ob t ms ls p z) :
    Fn PG w (.ref 97) 10 [.ref b, .int x t1, .int y t2] G H g [(bd, ob)] (fun _ _ W' => W' = [(bd, ob)]) := by
  refine fn_def [("buffer", .ref b), ("start", .int x t1), ("end", .int y t2)] ["buffer", "start", "end"] [] [some (.ref b), some (.int x t1), some (.int y t2)] (more := []) B (by k_is) (by k_is) (fun s _ => BindsTo.of_eq rfl) rfl rfl (by decide +kernel) ?_
  intro A h gs dr tk os L R sc S
  obtain ⟨bi, ti, mi, ma, la⟩ := hx
  obtain ⟨_, _, _, _, _, _, _, _, _, _, _, _, ha⟩ := ha
  (with_reducible refine OpAll.all ?_; intro _ _; refine x_cons ?_; refine wpAny_If ?_; refine wpAny_isTrue_Compare1 ?_ (by with_unfolding_all rfl); refine Attribute_any_ ?_ (by with_unfolding_all rfl); refine r_loc ‹_› ‹_› (by kun_count) ?_; refine' r_get ?a151x1 ?a151x2 ?a151x3 ?a151x4 ?a151x5 ?a151x6 ?a151x7 ?_; (case a151x1 => assumption); (case a151x2 => assumption); (case a151x4 => kso_lit); (case a151x3 => exact co_Buffer); (case a151x5 => kso_lit); (case a151x6 => kic_val); (case a151x7 => with_unfolding_all rfl); refine wpAny_Constant_none ?_; refine r_isNN ?_; refine wpAny_truthy_bool ?_; refine if_f ?_; refine wpAny_execs_nil ?_; refine x_next ?_; refine x_cons ?_; refine wpAny_If ?_; refine wpAny_isTrue_Compare1 ?_ (by with_unfolding_all rfl); refine Attribute_any_ ?_ (by with_unfolding_all rfl); refine r_loc ‹_› ‹_› (by kun_count) ?_; refine' r_get ?a152x1 ?a152x2 ?a152x3 ?a152x4 ?a152x5 ?a152x6 ?a152x7 ?_; (case a152x1 => assumption); (case a152x2 => assumption); (case a152x4 => kso_lit); (case a152x3 => exact co_Buffer); (case a152x5 => kso_lit); (case a152x6 => kic_val); (case a152x7 => with_unfolding_all rfl); refine wpAny_Constant_none ?_; refine r_isNN ?_; refine wpAny_truthy_bool ?_; refine if_f ?_; refine wpAny_execs_nil ?_; refine x_next ?_; refine wpAny_execs_nil ?_; refine OpQ.out ‹_› ?_)
  exact x_endN0 (by assumption) rfl
theorem hungin_spec (B : Base (A0.heap_1_1 w.params) G mg mb) {b bd t td ms msd rw ls : Addr} {ob : Obj} {p z x y : Int} {q : Bool} {t1 t2 : Tok} (hx : BufG w.params g b bd t td ms msd rw ls) (ha : BufO w.params ob t ms ls p z) :
    Fn PG w (.ref 104) 10 [.ref b, .int x t1, .int y t2, .bool q] G H g [(bd, ob)] (fun _ _ W' => W' = [(bd, ob)]) := by
  refine fn_def [("buffer", .ref b), ("place", .int x t1), ("many", .int y t2), ("before_markers", .bool q)] ["buffer", "place", "many", "before_markers"] [] [some (.ref b), some (.int x t1), some (.int y t2), some (.bool q)] (more := []) B (by k_is) (by k_is) (fun s _ => BindsTo.of_eq rfl) rfl rfl (by decide +kernel) ?_
  intro A h gs dr tk os L R sc S
  obtain ⟨bi, ti, mi, ma, la⟩ := hx
  obtain ⟨_, _, _, _, _, _, _, _, _, _, _, _, ha⟩ := ha
  (with_reducible refine OpAll.all ?_; intro _ _; refine x_cons ?_; refine wpAny_If ?_; refine wpAny_isTrue_Compare1 ?_ (by with_unfolding_all rfl); refine Attribute_any_ ?_ (by with_unfolding_all rfl); refine r_loc ‹_› ‹_› (by kun_count) ?_; refine' r_get ?a153x1 ?a153x2 ?a153x3 ?a153x4 ?a153x5 ?a153x6 ?a153x7 ?_; (case a153x1 => assumption); (case a153x2 => assumption); (case a153x4 => kso_lit); (case a153x3 => exact co_Buffer); (case a153x5 => kso_lit); (case a153x6 => kic_val); (case a153x7 => with_unfolding_all rfl); refine wpAny_Constant_none ?_; refine r_isNN ?_; refine wpAny_truthy_bool ?_; refine if_f ?_; refine wpAny_execs_nil ?_; refine x_next ?_; refine x_cons ?_; refine wpAny_If ?_; refine wpAny_isTrue_Compare1 ?_ (by with_unfolding_all rfl); refine Attribute_any_ ?_ (by with_unfolding_all rfl); refine r_loc ‹_› ‹_› (by kun_count) ?_; refine' r_get ?a154x1 ?a154x2 ?a154x3 ?a154x4 ?a154x5 ?a154x6 ?a154x7 ?_; (case a154x1 => assumption); (case a154x2 => assumption); (case a154x4 => kso_lit); (case a154x3 => exact co_Buffer); (case a154x5 => kso_lit); (case a154x6 => kic_val); (case a154x7 => with_unfolding_all rfl); refine wpAny_Constant_none ?_; refine r_isNN ?_; refine wpAny_truthy_bool ?_; refine if_f ?_; refine wpAny_execs_nil ?_; refine x_next ?_; refine wpAny_execs_nil ?_; refine OpQ.out ‹_› ?_)
  exact x_endN0 (by assumption) rfl
end
section
variable {w : World} {G H g : Heap} {mg mb : Str → Option Value}
/-- what an edit leaves -/
noncomputable def EdP (P : Params) (b bd t td ms rw ls c : Addr) (orw : Obj) (p z : Int) (txt : List Int) (l : List Mk) (low high : Int) (ns : List Int) (q : Bool) (W' : List (Addr × Obj)) : Prop := Ex5 fun ob ot oc marks p' => An5 (W' = (bd, ob) :: (td, ot) :: (c, oc) :: (rw, orw) :: marks) (BufO P ob t ms ls p' (z + ns.length - (high - low))) ((q = false → (p < low ∨ high < p) → p' = sh low high ns.length p)) (TxtO P ot oc c (rep txt low high ns)) (MksO P b (l.map fun m => m.to (sh low high ns.length m.pos)) marks)
structure EdH (P : Params) (w : World) (g : Heap) (b bd t td ms msd rw ls c : Addr) (ob ot oc orw : Obj) (p z : Int) (txt : List Int) (l : List Mk) (marks : List (Addr × Obj)) (low high : Int) : Prop where
  bg : BufG P g b bd t td ms msd rw ls
  bo : BufO P ob t ms ls p z
  tx : TxtO P ot oc c txt
  dc : DctO PG w rw orw (MkTab l)
  asc : (l.map (·.num)).Pairwise (· < ·)
  few : l.length < 64
  mi : ∀ m ∈ l, Inst g m.x 342 m.dx
  mo : MksO P b l marks
  mp : ∀ m ∈ l, m.pos < low ∨ high < m.pos
  zl : z = txt.length + 1
  lim : 1 ≤ low ∧ low ≤ high ∧ high ≤ z ∧ txt.length ≤ 2000
theorem sh_id {low p : Int} : sh low low 0 p = p := by unfold sh; split <;> (first | lia | omega)
theorem sh_ins (x n p : Int) : sh x x n p = if x < p then p + (x + n) - x else p := by unfold sh; split <;> (first | lia | omega)
theorem sh_ins2 (x n p : Int) : sh x x n p = if x < p then p + n else p := by unfold sh; split <;> (first | lia | omega)
theorem rep_id {txt : List Int} {low : Int} : rep txt low low [] = txt := by unfold rep; simp
theorem Mk.to_id (m : Mk) : m.to m.pos = m := rfl
theorem mkmap_id {l : List Mk} {f : Mk → Int} (h : ∀ m ∈ l, f m = m.pos) : (l.map fun m => m.to (f m)) = l := by
  induction l with
  | nil => rfl
  | cons a r ih => rw [List.map_cons, ih fun m hm => h m (.tail _ hm), h a (.head _)]; rfl
theorem mkmap_eq {l : List Mk} {f f' : Mk → Int} (h : ∀ m ∈ l, f m = f' m) : (l.map fun m => m.to (f m)) = l.map fun m => m.to (f' m) := List.map_congr_left fun m hm => by rw [h m hm]
theorem putin_spec (B : Base (A0.heap_1_1 w.params) G mg mb) {b bd t td ms msd rw ls c n : Addr} {ob ot oc orw : Obj} {txt ns : List Int} {l : List Mk} {marks : List (Addr × Obj)} {p z x : Int} {t1 : Tok} {q : Bool} (hy : EdH w.params w g b bd t td ms msd rw ls c ob ot oc orw p z txt l marks x x) (hns : IntsAt g n ns) (hn : ns.length ≤ 900) :
    Fn PG w (.ref 111) 18 [.ref b, .int x t1, .ref n, .bool false, .bool q] G H g ((bd, ob) :: (td, ot) :: (c, oc) :: (rw, orw) :: marks) (fun _ _ W' => EdP w.params b bd t td ms rw ls c orw p z txt l x x ns q W') := by
  refine fn_def [("buffer", .ref b), ("place", .int x t1), ("codes", .ref n), ("before_markers", .bool false), ("is_point_behind", .bool q)] ["buffer", "place", "codes", "before_markers", "is_point_behind"] ["need_writable", "reached", "len", "need_room", "tell_ahead", "text_in", "hung_in", "tell_behind"] [some (.ref b), some (.int x t1), some (.ref n), some (.bool false), some (.bool q)] (more := []) B (by k_is) (by k_is) (fun s _ => BindsTo.of_eq rfl) rfl rfl (by decide +kernel) ?_
  intro A h gs dr tk os L R sc S
  obtain ⟨bg, bo, tx, dc, asc, few, mi, mo, mp, zl, lim⟩ := hy
  obtain ⟨bi, ti, mmi, ma, la⟩ := id bg
  (with_reducible refine OpAll.all ?_; intro _ _; refine x_cons ?_; refine x_expr ‹_› ?_ (by with_unfolding_all rfl); refine Call_ ?_ (by with_unfolding_all rfl); refine r_glob ‹_› ‹_› ‹_› (by lks_lit) g_need_writable ?_; refine r_cwA ‹_› kp_48 ?_ (by with_unfolding_all rfl) (by with_unfolding_all rfl); refine args_cons ?_ (by with_unfolding_all rfl); refine r_loc ‹_› ‹_› (by kun_count) ?_; refine args_nil ?_; refine r_le ‹_› (by rfl) ?_)
  refine r_callL (W := [(bd, ob)]) (rest := (td, ot) :: (c, oc) :: (rw, orw) :: marks) S (writable_spec B bg bo) R (by decide) ?_
  rintro _ h1 tk1 g1 _ hle1 S1 rfl
  simp only [List.cons_append, List.nil_append] at S1
  (with_reducible refine x_next ?_; refine x_cons ?_; refine x_expr ‹_› ?_ (by with_unfolding_all rfl); refine Call_ ?_ (by with_unfolding_all rfl); refine r_glob ‹_› ‹_› ‹_› (by lks_lit) g_reached ?_; refine r_cwA ‹_› kp_62 ?_ (by with_unfolding_all rfl) (by with_unfolding_all rfl); refine args_cons ?_ (by with_unfolding_all rfl); refine r_loc ‹_› ‹_› (by kun_count) ?_; refine args_cons ?_ (by with_unfolding_all rfl); refine r_loc ‹_› ‹_› (by kun_count) ?_; refine args_cons ?_ (by with_unfolding_all rfl); refine r_loc ‹_› ‹_› (by kun_count) ?_; refine args_nil ?_; refine r_le ‹_› (by rfl) ?_)
  refine r_callL (W := [(bd, ob)]) (rest := (td, ot) :: (c, oc) :: (rw, orw) :: marks) S1 (reached_spec B (bg.le hle1) bo ⟨by (first | lia | omega), by (first | lia | omega), by (first | lia | omega)⟩) R (by decide) ?_
  rintro _ h2 tk2 g2 _ hle2 S2 ⟨r2, u1, u2, rfl, _, rfl⟩
  simp only [List.cons_append, List.nil_append] at S2
  have hlen := hle1.trans hle2
  have hns2 := hns.le hlen
  (with_reducible refine x_next ?_; refine x_cons ?_; refine wpAny_If ?_; refine wpAny_isTrue_Compare1 ?_ (by with_unfolding_all rfl); refine Call_ ?_ (by with_unfolding_all rfl); refine r_glob ‹_› ‹_› ‹_› (by lks_lit) g_len ?_; refine r_cwbA ?_ (by with_unfolding_all rfl) (by with_unfolding_all rfl); refine args_cons ?_ (by with_unfolding_all rfl); refine r_loc ‹_› ‹_› (by kun_count) ?_; refine args_nil ?_; refine r_lenI (by kso_lit) (by kpa_letter) ?_; refine r_int ?_; refine r_eq ?_; refine wpAny_truthy_bool ?_; refine if_dec ?_ ?_ <;> intro _; refine x_cons ?_; refine wpAny_Return_none ?_; refine x_ret ?_; refine x_ret ?_; refine OpQ.out ‹_› ?_; rotate_left; refine wpAny_execs_nil ?_; refine x_next ?_; refine x_cons ?_; refine x_expr ‹_› ?_ (by with_unfolding_all rfl); refine Call_ ?_ (by with_unfolding_all rfl); refine r_glob ‹_› ‹_› ‹_› (by lks_lit) g_need_room ?_; refine r_cwA ‹_› kp_55 ?_ (by with_unfolding_all rfl) (by with_unfolding_all rfl); refine args_cons ?_ (by with_unfolding_all rfl); refine r_loc ‹_› ‹_› (by kun_count) ?_; refine args_cons ?_ (by with_unfolding_all rfl); refine Call_ ?_ (by with_unfolding_all rfl); refine r_glob ‹_› ‹_› ‹_› (by lks_lit) g_len ?_; refine r_cwbA ?_ (by with_unfolding_all rfl) (by with_unfolding_all rfl); refine args_cons ?_ (by with_unfolding_all rfl); refine r_loc ‹_› ‹_› (by kun_count) ?_; refine args_nil ?_; refine r_lenI (by kso_lit) (by kpa_letter) ?_; refine args_nil ?_; refine r_le ‹_› (by rfl) ?_; rotate_left)
  · rename_i h0
    have h0' : ns = [] := List.eq_nil_of_length_eq_zero (by (first | lia | omega))
    subst h0'
    refine (x_end0 S2 ⟨ob, ot, oc, marks, p, rfl, ?_, fun _ _ => sh_id.symm, ?_, ?_⟩)
    · rw [show z + (([] : List Int).length : Int) - (x - x) = z by simp]; exact bo
    · rw [rep_id]; exact tx
    · show MksO w.params b (l.map fun m => m.to (sh x x 0 m.pos)) marks
      rw [mkmap_id fun m hm => sh_id]; exact mo
  refine r_callL (W := [(bd, ob), (td, ot), (c, oc)]) (rest := (rw, orw) :: marks) S2 (room_spec B (bg.le hlen) bo tx (by (first | lia | omega))) R (by decide) ?_
  rintro _ h3 tk3 g3 _ hle3 S3 rfl
  simp only [List.cons_append, List.nil_append] at S3
  (with_reducible refine x_next ?_; refine x_cons ?_; refine x_expr ‹_› ?_ (by with_unfolding_all rfl); refine Call_ ?_ (by with_unfolding_all rfl); refine r_glob ‹_› ‹_› ‹_› (by lks_lit) g_tell_ahead ?_; refine r_cwA ‹_› kp_69 ?_ (by with_unfolding_all rfl) (by with_unfolding_all rfl); refine args_cons ?_ (by with_unfolding_all rfl); refine r_loc ‹_› ‹_› (by kun_count) ?_; refine args_cons ?_ (by with_unfolding_all rfl); refine r_loc ‹_› ‹_› (by kun_count) ?_; refine args_cons ?_ (by with_unfolding_all rfl); refine r_loc ‹_› ‹_› (by kun_count) ?_; refine args_nil ?_; refine r_le ‹_› (by rfl) ?_)
  refine r_callL (W := [(bd, ob)]) (rest := (td, ot) :: (c, oc) :: (rw, orw) :: marks) S3 (ahead_spec B ((bg.le hlen).le hle3) bo) R (by decide) ?_
  rintro _ h4 tk4 g4 _ hle4 S4 rfl
  simp only [List.cons_append, List.nil_append] at S4
  have hle : Le g g4 := hlen.trans (hle3.trans hle4)
  (with_reducible refine x_next ?_; refine x_cons ?_; refine x_expr ‹_› ?_ (by with_unfolding_all rfl); refine Call_ ?_ (by with_unfolding_all rfl); refine r_glob ‹_› ‹_› ‹_› (by lks_lit) g_text_in ?_; refine r_cwA ‹_› kp_90 ?_ (by with_unfolding_all rfl) (by with_unfolding_all rfl); refine args_cons ?_ (by with_unfolding_all rfl); refine r_loc ‹_› ‹_› (by kun_count) ?_; refine args_cons ?_ (by with_unfolding_all rfl); refine r_loc ‹_› ‹_› (by kun_count) ?_; refine args_cons ?_ (by with_unfolding_all rfl); refine r_loc ‹_› ‹_› (by kun_count) ?_; refine args_nil ?_; refine r_le ‹_› (by rfl) ?_)
  refine r_callL (W := [(bd, ob), (td, ot), (c, oc)]) (rest := (rw, orw) :: marks) S4 (in_spec B (bg.le hle) bo tx (hns.le hle) ⟨by (first | lia | omega), by (first | lia | omega), hn, by (first | lia | omega)⟩) R (by decide) ?_
  rintro _ h5 tk5 g5 _ hle5 S5 ⟨ob5, ot5, oc5, p5, rfl, bo5, tx5, hp5⟩
  simp only [List.cons_append, List.nil_append] at S5
  replace hle := hle.trans hle5
  have hns5 := hns.le hle
  obtain ⟨_, _, _, _, _, _, _, _, _, _, _, _, ha5⟩ := id bo5
  refine x_next (x_join (fun s' => Ex4 fun h6 tk6 ob6 p6 => An4 (s' = ⟨h6, gs, dr, tk6, os⟩) (St (ent G H g ((bd, ob) :: (td, ot) :: (c, oc) :: (rw, orw) :: marks)) ["buffer", "place", "codes", "before_markers", "is_point_behind"] L g5 h6 [some (.ref b), some (.int x t1), some (.ref n), some (.bool false), some (.bool q)] ((bd, ob6) :: (td, ot5) :: (c, oc5) :: (rw, orw) :: marks)) (BufO w.params ob6 t ms ls p6 (z + ns.length)) ((q = false → p6 = p5))) ?_ ?_)
  · cases q
    · (with_reducible refine OpAll.all ?_; intro _ _; refine wpAny_If ?_; refine wpAny_isTrue_value ?_ (by with_unfolding_all rfl); refine r_loc ‹_› ‹_› (by kun_count) ?_; refine wpAny_truthy_bool ?_; refine if_f ?_; refine wpAny_execs_nil ?_; refine OpQ.out ‹_› ?_)
      exact ⟨rfl, _, _, _, _, rfl, S5, bo5, fun _ => rfl⟩
    · (with_reducible refine OpAll.all ?_; intro _ _; refine wpAny_If ?_; refine wpAny_isTrue_value ?_ (by with_unfolding_all rfl); refine r_loc ‹_› ‹_› (by kun_count) ?_; refine wpAny_truthy_bool ?_; refine if_t ?_; refine x_cons ?_; refine plainObj_wpAny_Assign_Attribute ?_ (by with_unfolding_all rfl); refine wpAny_BinOp ?_; refine r_loc ‹_› ‹_› (by kun_count) ?_; refine Call_ ?_ (by with_unfolding_all rfl); refine r_glob ‹_› ‹_› ‹_› (by lks_lit) g_len ?_; refine r_cwbA ?_ (by with_unfolding_all rfl) (by with_unfolding_all rfl); refine args_cons ?_ (by with_unfolding_all rfl); refine r_loc ‹_› ‹_› (by kun_count) ?_; refine args_nil ?_; refine r_lenI (by kso_lit) (by kpa_letter) ?_; refine r_add ?_; refine r_loc ‹_› ‹_› (by kun_count) ?_; refine' r_set ?a155x1 ?a155x2 ?a155x3 ?a155x4 ?a155x5 ?a155x6 ?a155x7 ?_; (case a155x1 => assumption); (case a155x2 => assumption); (case a155x4 => kso_lit); (case a155x3 => exact co_Buffer); (case a155x5 => kxw_text); (case a155x6 => assumption); (case a155x7 => kctr_letter); intro _ _ _ _; refine x_next ?_; refine wpAny_execs_nil ?_; refine OpQ.out ‹_› ?_)
      exact ⟨rfl, _, _, _, _, rfl, by assumption, ⟨_, _, _, _, _, _, _, _, _, _, _, _, by assumption⟩, fun z => by cases z⟩
  rintro _ ⟨h6, tk6, ob6, p6, rfl, S6, bo6, hp6⟩
  obtain ⟨_, _, _, _, _, _, _, _, _, _, _, _, ha6⟩ := id bo6
  (with_reducible refine x_cons ?_; refine x_expr ‹_› ?_ (by with_unfolding_all rfl); refine MethodCall_ ?_ (by with_unfolding_all rfl); refine Attribute_any_ ?_ (by with_unfolding_all rfl); refine r_loc ‹_› ‹_› (by kun_count) ?_; refine' r_get ?a156x1 ?a156x2 ?a156x3 ?a156x4 ?a156x5 ?a156x6 ?a156x7 ?_; (case a156x1 => assumption); (case a156x2 => assumption); (case a156x4 => kso_lit); (case a156x3 => exact co_Buffer); (case a156x5 => kso_lit); (case a156x6 => kic_val); (case a156x7 => with_unfolding_all rfl); refine' r_meth ?a157x1 ?a157x2 ?a157x3 ?a157x4 ?a157x5 ?a157x6 ?_; (case a157x1 => assumption); (case a157x2 => assumption); (case a157x4 => kso_lit); (case a157x3 => exact co_Markers); (case a157x5 => kso_lit); (case a157x6 => exact me_Markers_inserted); refine r_cwB ‹_› kp_393 ?_ (by with_unfolding_all rfl) (by with_unfolding_all rfl); refine args_cons ?_ (by with_unfolding_all rfl); refine r_loc ‹_› ‹_› (by kun_count) ?_; refine args_cons ?_ (by with_unfolding_all rfl); refine wpAny_BinOp ?_; refine r_loc ‹_› ‹_› (by kun_count) ?_; refine Call_ ?_ (by with_unfolding_all rfl); refine r_glob ‹_› ‹_› ‹_› (by lks_lit) g_len ?_; refine r_cwbA ?_ (by with_unfolding_all rfl) (by with_unfolding_all rfl); refine args_cons ?_ (by with_unfolding_all rfl); refine r_loc ‹_› ‹_› (by kun_count) ?_; refine args_nil ?_; refine r_lenI (by kso_lit) (by kpa_letter) ?_; refine r_add ?_; refine args_cons ?_ (by with_unfolding_all rfl); refine r_loc ‹_› ‹_› (by kun_count) ?_; refine args_nil ?_; refine r_le ‹_› (by rfl) ?_)
  refine r_call (W := (rw, orw) :: marks) (rest := [(bd, ob6), (td, ot5), (c, oc5)]) S6 (List.perm_append_comm (l₁ := [(bd, ob6), (td, ot5), (c, oc5)])) (inserted_spec B (mmi.le hle) (ma.le hle) dc asc few (fun m hm => (mi m hm).le hle) mo mp) R (by decide) ?_
  rintro _ h7 tk7 g7 _ hle7 S7 ⟨marks7, rfl, mo7⟩
  have S7 := S7.perm (List.perm_append_comm (l₂ := [(bd, ob6), (td, ot5), (c, oc5)]))
  simp only [List.cons_append, List.nil_append] at S7
  replace hle := hle.trans hle7
  have hns7 := hns.le hle
  (with_reducible refine x_next ?_; refine x_cons ?_; refine x_expr ‹_› ?_ (by with_unfolding_all rfl); refine Call_ ?_ (by with_unfolding_all rfl); refine r_glob ‹_› ‹_› ‹_› (by lks_lit) g_hung_in ?_; refine r_cwA ‹_› kp_104 ?_ (by with_unfolding_all rfl) (by with_unfolding_all rfl); refine args_cons ?_ (by with_unfolding_all rfl); refine r_loc ‹_› ‹_› (by kun_count) ?_; refine args_cons ?_ (by with_unfolding_all rfl); refine r_loc ‹_› ‹_› (by kun_count) ?_; refine args_cons ?_ (by with_unfolding_all rfl); refine Call_ ?_ (by with_unfolding_all rfl); refine r_glob ‹_› ‹_› ‹_› (by lks_lit) g_len ?_; refine r_cwbA ?_ (by with_unfolding_all rfl) (by with_unfolding_all rfl); refine args_cons ?_ (by with_unfolding_all rfl); refine r_loc ‹_› ‹_› (by kun_count) ?_; refine args_nil ?_; refine r_lenI (by kso_lit) (by kpa_letter) ?_; refine args_cons ?_ (by with_unfolding_all rfl); refine r_loc ‹_› ‹_› (by kun_count) ?_; refine args_nil ?_; refine r_le ‹_› (by rfl) ?_)
  refine r_callL (W := [(bd, ob6)]) (rest := (td, ot5) :: (c, oc5) :: (rw, orw) :: marks7) S7 (hungin_spec B (bg.le hle) bo6) R (by decide) ?_
  rintro _ h8 tk8 g8 _ hle8 S8 rfl
  simp only [List.cons_append, List.nil_append] at S8
  replace hle := hle.trans hle8
  have hns8 := hns.le hle
  (with_reducible refine x_next ?_; refine x_cons ?_; refine x_expr ‹_› ?_ (by with_unfolding_all rfl); refine Call_ ?_ (by with_unfolding_all rfl); refine r_glob ‹_› ‹_› ‹_› (by lks_lit) g_tell_behind ?_; refine r_cwA ‹_› kp_76 ?_ (by with_unfolding_all rfl) (by with_unfolding_all rfl); refine args_cons ?_ (by with_unfolding_all rfl); refine r_loc ‹_› ‹_› (by kun_count) ?_; refine args_cons ?_ (by with_unfolding_all rfl); refine r_loc ‹_› ‹_› (by kun_count) ?_; refine args_cons ?_ (by with_unfolding_all rfl); refine wpAny_BinOp ?_; refine r_loc ‹_› ‹_› (by kun_count) ?_; refine Call_ ?_ (by with_unfolding_all rfl); refine r_glob ‹_› ‹_› ‹_› (by lks_lit) g_len ?_; refine r_cwbA ?_ (by with_unfolding_all rfl) (by with_unfolding_all rfl); refine args_cons ?_ (by with_unfolding_all rfl); refine r_loc ‹_› ‹_› (by kun_count) ?_; refine args_nil ?_; refine r_lenI (by kso_lit) (by kpa_letter) ?_; refine r_add ?_; refine args_cons ?_ (by with_unfolding_all rfl); refine r_int ?_; refine args_nil ?_; refine r_le ‹_› (by rfl) ?_)
  refine r_callL (W := [(bd, ob6)]) (rest := (td, ot5) :: (c, oc5) :: (rw, orw) :: marks7) S8 (behind_spec B (bg.le hle) bo6) R (by decide) ?_
  rintro _ h9 tk9 g9 _ hle9 S9 ⟨ob9, rfl, bo9⟩
  simp only [List.cons_append, List.nil_append] at S9
  (with_reducible refine x_next ?_; refine wpAny_execs_nil ?_; refine OpQ.out ‹_› ?_)
  refine x_endN0 S9 ⟨ob9, ot5, oc5, marks7, p6, rfl, ?_, fun z hz => ?_, tx5, ?_⟩
  · rw [show z + (ns.length : Int) - (x - x) = z + ns.length by (first | lia | omega)]; exact bo9
  · rw [hp6 z, hp5]; exact (sh_ins2 _ _ _).symm
  · rw [mkmap_eq (f' := fun m => if x < m.pos then m.pos + (x + ns.length) - x else m.pos) fun m _ => sh_ins _ _ _]; exact mo7
theorem insertat_spec (B : Base (A0.heap_1_1 w.params) G mg mb) {b bd t td ms msd rw ls c n : Addr} {ob ot oc orw : Obj} {txt ns : List Int} {l : List Mk} {marks : List (Addr × Obj)} {p z x : Int} {t1 : Tok} (hy : EdH w.params w g b bd t td ms msd rw ls c ob ot oc orw p z txt l marks x x) (hns : IntsAt g n ns) (hn : ns.length ≤ 900) :
    Fn PG w (.ref 119) 20 [.ref b, .int x t1, .ref n] G H g ((bd, ob) :: (td, ot) :: (c, oc) :: (rw, orw) :: marks) (fun _ _ W' => EdP w.params b bd t td ms rw ls c orw p z txt l x x ns false W') := by
  refine fn_def [("buffer", .ref b), ("place", .int x t1), ("codes", .ref n), ("before_markers", .bool false)] ["buffer", "place", "codes", "before_markers"] ["put_in"] [some (.ref b), some (.int x t1), some (.ref n), some (.bool false)] (more := []) B (by k_is) (by k_is) (fun s X => binds_K X rfl (by k_is) rfl rfl rfl) rfl rfl (by decide +kernel) ?_
  intro A h gs dr tk os L R sc S
  (with_reducible refine OpAll.all ?_; intro _ _; refine x_cons ?_; refine x_expr ‹_› ?_ (by with_unfolding_all rfl); refine Call_ ?_ (by with_unfolding_all rfl); refine r_glob ‹_› ‹_› ‹_› (by lks_lit) g_put_in ?_; refine r_cwA ‹_› kp_111 ?_ (by with_unfolding_all rfl) (by with_unfolding_all rfl); refine args_cons ?_ (by with_unfolding_all rfl); refine r_loc ‹_› ‹_› (by kun_count) ?_; refine args_cons ?_ (by with_unfolding_all rfl); refine r_loc ‹_› ‹_› (by kun_count) ?_; refine args_cons ?_ (by with_unfolding_all rfl); refine r_loc ‹_› ‹_› (by kun_count) ?_; refine args_cons ?_ (by with_unfolding_all rfl); refine r_loc ‹_› ‹_› (by kun_count) ?_; refine args_cons ?_ (by with_unfolding_all rfl); refine wpAny_Constant_bool ?_; refine args_nil ?_; refine r_le ‹_› (by rfl) ?_)
  refine r_call0 S (putin_spec B hy hns hn) R (by decide) ?_
  rintro _ h1 tk1 g1 _ hle1 S1 hq
  (with_reducible refine x_next ?_; refine wpAny_execs_nil ?_; refine OpQ.out ‹_› ?_)
  exact x_endN0 S1 hq
theorem insert_spec (B : Base (A0.heap_1_1 w.params) G mg mb) {b bd t td ms msd rw ls c n : Addr} {ob ot oc orw : Obj} {txt ns : List Int} {l : List Mk} {marks : List (Addr × Obj)} {p z : Int} (hy : EdH w.params w g b bd t td ms msd rw ls c ob ot oc orw p z txt l marks p p) (hns : IntsAt g n ns) (hn : ns.length ≤ 900) :
    Fn PG w (.ref 127) 20 [.ref b, .ref n] G H g ((bd, ob) :: (td, ot) :: (c, oc) :: (rw, orw) :: marks) (fun _ _ W' => EdP w.params b bd t td ms rw ls c orw p z txt l p p ns true W') := by
  refine fn_def [("buffer", .ref b), ("codes", .ref n), ("before_markers", .bool false)] ["buffer", "codes", "before_markers"] ["put_in"] [some (.ref b), some (.ref n), some (.bool false)] (more := []) B (by k_is) (by k_is) (fun s X => binds_K X rfl (by k_is) rfl rfl rfl) rfl rfl (by decide +kernel) ?_
  intro A h gs dr tk os L R sc S
  obtain ⟨bi, ti, mmi, ma, la⟩ := id hy.bg
  obtain ⟨_, _, _, _, _, _, _, _, _, _, _, _, ha5⟩ := id hy.bo
  (with_reducible refine OpAll.all ?_; intro _ _; refine x_cons ?_; refine x_expr ‹_› ?_ (by with_unfolding_all rfl); refine Call_ ?_ (by with_unfolding_all rfl); refine r_glob ‹_› ‹_› ‹_› (by lks_lit) g_put_in ?_; refine r_cwA ‹_› kp_111 ?_ (by with_unfolding_all rfl) (by with_unfolding_all rfl); refine args_cons ?_ (by with_unfolding_all rfl); refine r_loc ‹_› ‹_› (by kun_count) ?_; refine args_cons ?_ (by with_unfolding_all rfl); refine Attribute_any_ ?_ (by with_unfolding_all rfl); refine r_loc ‹_› ‹_› (by kun_count) ?_; refine' r_get ?a158x1 ?a158x2 ?a158x3 ?a158x4 ?a158x5 ?a158x6 ?a158x7 ?_; (case a158x1 => assumption); (case a158x2 => assumption); (case a158x4 => kso_lit); (case a158x3 => exact co_Buffer); (case a158x5 => kso_lit); (case a158x6 => kic_val); (case a158x7 => with_unfolding_all rfl); refine args_cons ?_ (by with_unfolding_all rfl); refine r_loc ‹_› ‹_› (by kun_count) ?_; refine args_cons ?_ (by with_unfolding_all rfl); refine r_loc ‹_› ‹_› (by kun_count) ?_; refine args_cons ?_ (by with_unfolding_all rfl); refine wpAny_Constant_bool ?_; refine args_nil ?_; refine r_le ‹_› (by rfl) ?_)
  refine r_call0 S (putin_spec B hy hns hn) R (by decide) ?_
  rintro _ h1 tk1 g1 _ hle1 S1 hq
  (with_reducible refine x_next ?_; refine wpAny_execs_nil ?_; refine OpQ.out ‹_› ?_)
  exact x_endN0 S1 hq
end
section
variable {w : World} {G H g : Heap} {mg mb : Str → Option Value}
theorem sh_del (x y p : Int) (h : p < x ∨ y < p) (hxy : x < y) : (if x < p then max x (p - (y - x)) else p) = sh x y 0 p := by unfold sh; split <;> split <;> (first | lia | omega)
theorem sh_rep (x y n p : Int) (h : p < x ∨ y < p) (hxy : x < y) : (if y ≤ p then p + n - (y - x) else p) = sh x y n p := by unfold sh; split <;> split <;> (first | lia | omega)
theorem sh_rep2 (x y n p p1 p2 : Int) (h : p < x ∨ y < p) (hxy : x < y) (h1 : p1 = if x < p then max x (p - (y - x)) else p) (h2 : p2 = if x < p1 then p1 + n else p1) (hy : ¬ y ≤ p) : p2 = sh x y n p := by subst h2; subst h1; unfold sh; split <;> split <;> (try split) <;> (first | lia | omega)
theorem rep_del {txt : List Int} {x y : Int} : rep txt x y [] = txt.take (x - 1).toNat ++ txt.drop (y - 1).toNat := by unfold rep; simp
theorem rep_two {txt ns : List Int} {x y : Int} (h : 1 ≤ x ∧ x ≤ y ∧ y ≤ txt.length + 1) : rep (txt.take (x - 1).toNat ++ txt.drop (y - 1).toNat) x x ns = rep txt x y ns := by
  unfold rep
  have e2 : (txt.take (x - 1).toNat).length = (x - 1).toNat := by rw [List.length_take]; (first | lia | omega)
  rw [List.take_left' e2, List.drop_left' e2]
theorem delete_spec (B : Base (A0.heap_1_1 w.params) G mg mb) {b bd t td ms msd rw ls c : Addr} {ob ot oc orw : Obj} {txt : List Int} {l : List Mk} {marks : List (Addr × Obj)} {p z x y : Int} {t1 t2 : Tok} (hy : EdH w.params w g b bd t td ms msd rw ls c ob ot oc orw p z txt l marks x y) (hxy : x < y) :
    Fn PG w (.ref 134) 18 [.ref b, .int x t1, .int y t2] G H g ((bd, ob) :: (td, ot) :: (c, oc) :: (rw, orw) :: marks) (fun _ _ W' => EdP w.params b bd t td ms rw ls c orw p z txt l x y [] false W') := by
  refine fn_def [("buffer", .ref b), ("start", .int x t1), ("end", .int y t2)] ["buffer", "start", "end", "low", "high", "gone"] ["need_writable", "reached", "tell_ahead", "text_out", "hung_out", "tell_behind"] [some (.ref b), some (.int x t1), some (.int y t2), none, none, none] (more := ["low", "high", "gone"]) B (by k_is) (by k_is) (fun s _ => BindsTo.of_eq rfl) rfl rfl (by decide +kernel) ?_
  intro A h gs dr tk os L R sc S
  obtain ⟨bg, bo, tx, dc, asc, few, mi, mo, mp, zl, lim⟩ := hy
  obtain ⟨bi, ti, mmi, ma, la⟩ := id bg
  (with_reducible refine OpAll.all ?_; intro _ _; refine x_cons ?_; refine x_expr ‹_› ?_ (by with_unfolding_all rfl); refine Call_ ?_ (by with_unfolding_all rfl); refine r_glob ‹_› ‹_› ‹_› (by lks_lit) g_need_writable ?_; refine r_cwA ‹_› kp_48 ?_ (by with_unfolding_all rfl) (by with_unfolding_all rfl); refine args_cons ?_ (by with_unfolding_all rfl); refine r_loc ‹_› ‹_› (by kun_count) ?_; refine args_nil ?_; refine r_le ‹_› (by rfl) ?_)
  refine r_callL (W := [(bd, ob)]) (rest := (td, ot) :: (c, oc) :: (rw, orw) :: marks) S (writable_spec B bg bo) R (by decide) ?_
  rintro _ h1 tk1 g1 _ hle1 S1 rfl
  simp only [List.cons_append, List.nil_append] at S1
  (with_reducible refine x_next ?_; refine x_cons ?_; refine Assign_Tuple ?_ (by with_unfolding_all rfl) (by with_unfolding_all rfl); refine Call_ ?_ (by with_unfolding_all rfl); refine r_glob ‹_› ‹_› ‹_› (by lks_lit) g_reached ?_; refine r_cwA ‹_› kp_62 ?_ (by with_unfolding_all rfl) (by with_unfolding_all rfl); refine args_cons ?_ (by with_unfolding_all rfl); refine r_loc ‹_› ‹_› (by kun_count) ?_; refine args_cons ?_ (by with_unfolding_all rfl); refine r_loc ‹_› ‹_› (by kun_count) ?_; refine args_cons ?_ (by with_unfolding_all rfl); refine r_loc ‹_› ‹_› (by kun_count) ?_; refine args_nil ?_; refine r_le ‹_› (by rfl) ?_)
  refine r_callL (W := [(bd, ob)]) (rest := (td, ot) :: (c, oc) :: (rw, orw) :: marks) S1 (reached_spec B (bg.le hle1) bo ⟨by (first | lia | omega), by (first | lia | omega), by (first | lia | omega)⟩) R (by decide) ?_
  rintro _ h2 tk2 g2 _ hle2 S2 ⟨r2, u1, u2, rfl, hr2, rfl⟩
  simp only [List.cons_append, List.nil_append] at S2
  (with_reducible refine r_asgT ‹_› ‹_› (by kso_lit) ?_ (by with_unfolding_all rfl) (by with_unfolding_all rfl); intro _ _ _; refine r_asgN ?_; refine r_store ‹_› ‹_› (by kxw_int) ?_; intro _ _; refine r_asgN ?_; refine r_store ‹_› ‹_› (by kxw_int) ?_; intro _ _; refine r_asg0 ?_; refine x_next ?_; refine x_cons ?_; refine wpAny_If ?_; refine wpAny_isTrue_Compare1 ?_ (by with_unfolding_all rfl); refine r_loc ‹_› ‹_› (by kun_count) ?_; refine r_loc ‹_› ‹_› (by kun_count) ?_; refine r_eq ?_; refine wpAny_truthy_bool ?_; refine if_dec ?_ ?_ <;> intro _; refine x_cons ?_; refine wpAny_Return_some ?_; refine List_ ?_; refine args_nil ?_; rotate_left; refine wpAny_execs_nil ?_; refine x_next ?_; refine x_cons ?_; refine x_expr ‹_› ?_ (by with_unfolding_all rfl); refine Call_ ?_ (by with_unfolding_all rfl); refine r_glob ‹_› ‹_› ‹_› (by lks_lit) g_tell_ahead ?_; refine r_cwA ‹_› kp_69 ?_ (by with_unfolding_all rfl) (by with_unfolding_all rfl); refine args_cons ?_ (by with_unfolding_all rfl); refine r_loc ‹_› ‹_› (by kun_count) ?_; refine args_cons ?_ (by with_unfolding_all rfl); refine r_loc ‹_› ‹_› (by kun_count) ?_; refine args_cons ?_ (by with_unfolding_all rfl); refine r_loc ‹_› ‹_› (by kun_count) ?_; refine args_nil ?_; refine r_le ‹_› (by rfl) ?_; rotate_left)
  · exfalso; (first | lia | omega)
  have hle : Le g g2 := hle1.trans hle2
  refine r_callL (W := [(bd, ob)]) (rest := (td, ot) :: (c, oc) :: (rw, orw) :: marks) (by assumption) (ahead_spec B (bg.le hle) bo) R (by decide) ?_
  rintro _ h4 tk4 g4 _ hle4 S4 rfl
  simp only [List.cons_append, List.nil_append] at S4
  replace hle : Le g g4 := hle.trans hle4
  (with_reducible refine x_next ?_; refine x_cons ?_; refine x_assign ?_ (by with_unfolding_all rfl); refine Call_ ?_ (by with_unfolding_all rfl); refine r_glob ‹_› ‹_› ‹_› (by lks_lit) g_text_out ?_; refine r_cwA ‹_› kp_83 ?_ (by with_unfolding_all rfl) (by with_unfolding_all rfl); refine args_cons ?_ (by with_unfolding_all rfl); refine r_loc ‹_› ‹_› (by kun_count) ?_; refine args_cons ?_ (by with_unfolding_all rfl); refine r_loc ‹_› ‹_› (by kun_count) ?_; refine args_cons ?_ (by with_unfolding_all rfl); refine r_loc ‹_› ‹_› (by kun_count) ?_; refine args_nil ?_; refine r_le ‹_› (by rfl) ?_)
  refine r_callL (W := [(bd, ob), (td, ot), (c, oc)]) (rest := (rw, orw) :: marks) (by assumption) (out_spec B (bg.le hle) bo tx (x := x) (y := y) ⟨by (first | lia | omega), by (first | lia | omega), by (first | lia | omega)⟩) R (by decide) ?_
  rintro _ h5 tk5 g5 _ hle5 S5 ⟨ob5, ot5, oc5, p5, rfl, bo5, tx5, hp5⟩
  simp only [List.cons_append, List.nil_append] at S5
  replace hle := hle.trans hle5
  obtain ⟨_, _, _, _, _, _, _, _, _, _, _, _, ha5⟩ := id bo5
  (with_reducible refine r_store ‹_› ‹_› (by kxw_int) ?_; intro _ _; refine x_next ?_; refine x_cons ?_; refine x_expr ‹_› ?_ (by with_unfolding_all rfl); refine MethodCall_ ?_ (by with_unfolding_all rfl); refine Attribute_any_ ?_ (by with_unfolding_all rfl); refine r_loc ‹_› ‹_› (by kun_count) ?_; refine' r_get ?a159x1 ?a159x2 ?a159x3 ?a159x4 ?a159x5 ?a159x6 ?a159x7 ?_; (case a159x1 => assumption); (case a159x2 => assumption); (case a159x4 => kso_lit); (case a159x3 => exact co_Buffer); (case a159x5 => kso_lit); (case a159x6 => kic_val); (case a159x7 => with_unfolding_all rfl); refine' r_meth ?a160x1 ?a160x2 ?a160x3 ?a160x4 ?a160x5 ?a160x6 ?_; (case a160x1 => assumption); (case a160x2 => assumption); (case a160x4 => kso_lit); (case a160x3 => exact co_Markers); (case a160x5 => kso_lit); (case a160x6 => exact me_Markers_deleted); refine r_cwB ‹_› kp_400 ?_ (by with_unfolding_all rfl) (by with_unfolding_all rfl); refine args_cons ?_ (by with_unfolding_all rfl); refine r_loc ‹_› ‹_› (by kun_count) ?_; refine args_cons ?_ (by with_unfolding_all rfl); refine r_loc ‹_› ‹_› (by kun_count) ?_; refine args_nil ?_; refine r_le ‹_› (by rfl) ?_)
  refine r_call (W := (rw, orw) :: marks) (rest := [(bd, ob5), (td, ot5), (c, oc5)]) (by assumption) (List.perm_append_comm (l₁ := [(bd, ob5), (td, ot5), (c, oc5)])) (deleted_spec B (mmi.le hle) (ma.le hle) dc asc few (fun m hm => (mi m hm).le hle) mo hxy mp) R (by decide) ?_
  rintro _ h7 tk7 g7 _ hle7 S7 ⟨marks7, rfl, mo7⟩
  have S7 := S7.perm (List.perm_append_comm (l₂ := [(bd, ob5), (td, ot5), (c, oc5)]))
  simp only [List.cons_append, List.nil_append] at S7
  replace hle := hle.trans hle7
  (with_reducible refine x_next ?_; refine x_cons ?_; refine x_expr ‹_› ?_ (by with_unfolding_all rfl); refine Call_ ?_ (by with_unfolding_all rfl); refine r_glob ‹_› ‹_› ‹_› (by lks_lit) g_hung_out ?_; refine r_cwA ‹_› kp_97 ?_ (by with_unfolding_all rfl) (by with_unfolding_all rfl); refine args_cons ?_ (by with_unfolding_all rfl); refine r_loc ‹_› ‹_› (by kun_count) ?_; refine args_cons ?_ (by with_unfolding_all rfl); refine r_loc ‹_› ‹_› (by kun_count) ?_; refine args_cons ?_ (by with_unfolding_all rfl); refine r_loc ‹_› ‹_› (by kun_count) ?_; refine args_nil ?_; refine r_le ‹_› (by rfl) ?_)
  refine r_callL (W := [(bd, ob5)]) (rest := (td, ot5) :: (c, oc5) :: (rw, orw) :: marks7) S7 (hungout_spec B (bg.le hle) bo5) R (by decide) ?_
  rintro _ h8 tk8 g8 _ hle8 S8 rfl
  simp only [List.cons_append, List.nil_append] at S8
  replace hle := hle.trans hle8
  (with_reducible refine x_next ?_; refine x_cons ?_; refine x_expr ‹_› ?_ (by with_unfolding_all rfl); refine Call_ ?_ (by with_unfolding_all rfl); refine r_glob ‹_› ‹_› ‹_› (by lks_lit) g_tell_behind ?_; refine r_cwA ‹_› kp_76 ?_ (by with_unfolding_all rfl) (by with_unfolding_all rfl); refine args_cons ?_ (by with_unfolding_all rfl); refine r_loc ‹_› ‹_› (by kun_count) ?_; refine args_cons ?_ (by with_unfolding_all rfl); refine r_loc ‹_› ‹_› (by kun_count) ?_; refine args_cons ?_ (by with_unfolding_all rfl); refine r_loc ‹_› ‹_› (by kun_count) ?_; refine args_cons ?_ (by with_unfolding_all rfl); refine wpAny_BinOp ?_; refine r_loc ‹_› ‹_› (by kun_count) ?_; refine r_loc ‹_› ‹_› (by kun_count) ?_; refine r_sub ?_; refine args_nil ?_; refine r_le ‹_› (by rfl) ?_)
  refine r_callL (W := [(bd, ob5)]) (rest := (td, ot5) :: (c, oc5) :: (rw, orw) :: marks7) S8 (behind_spec B (bg.le hle) bo5) R (by decide) ?_
  rintro _ h9 tk9 g9 _ hle9 S9 ⟨ob9, rfl, bo9⟩
  simp only [List.cons_append, List.nil_append] at S9
  (with_reducible refine x_next ?_; refine x_cons ?_; refine wpAny_Return_some ?_; refine r_loc ‹_› ‹_› (by kun_count) ?_; refine x_ret ?_; refine OpQ.out ‹_› ?_)
  refine x_end0 S9 ⟨ob9, ot5, oc5, marks7, p5, rfl, ?_, fun _ hz => ?_, by rw [rep_del]; exact tx5, ?_⟩
  · rw [show z + (([] : List Int).length : Int) - (y - x) = z - (y - x) by simp]; exact bo9
  · rw [hp5]; exact sh_del x y p hz hxy
  · show MksO w.params b (l.map fun m => m.to (sh x y 0 m.pos)) marks7
    rw [mkmap_eq (f' := fun m => if y < m.pos then m.pos - (y - x) else m.pos) fun m _ => by unfold sh; split <;> (first | lia | omega)]; exact mo7
theorem replace_spec (B : Base (A0.heap_1_1 w.params) G mg mb) {b bd t td ms msd rw ls c n : Addr} {ob ot oc orw : Obj} {txt ns : List Int} {l : List Mk} {marks : List (Addr × Obj)} {p z x y : Int} {t1 t2 : Tok} (hy : EdH w.params w g b bd t td ms msd rw ls c ob ot oc orw p z txt l marks x y) (hns : IntsAt g n ns) (hn : ns.length ≤ 900) :
    Fn PG w (.ref 142) 22 [.ref b, .int x t1, .int y t2, .ref n] G H g ((bd, ob) :: (td, ot) :: (c, oc) :: (rw, orw) :: marks) (fun _ _ W' => EdP w.params b bd t td ms rw ls c orw p z txt l x y ns false W') := by
  refine fn_def [("buffer", .ref b), ("start", .int x t1), ("end", .int y t2), ("codes", .ref n), ("rows", .none)] ["buffer", "start", "end", "codes", "rows", "low", "high", "point", "gone"] ["need_writable", "reached", "insert_at", "len", "delete", "need_room", "tell_ahead", "text_out", "text_in", "hung_in", "hung_out", "tell_behind"] [some (.ref b), some (.int x t1), some (.int y t2), some (.ref n), some .none, none, none, none, none] (more := ["low", "high", "point", "gone"]) B (by k_is) (by k_is) (fun s X => binds_K X rfl (by k_is) rfl rfl rfl) rfl rfl (by decide +kernel) ?_
  intro A h gs dr tk os L R sc S
  have hy0 := hy
  obtain ⟨bg, bo, tx, dc, asc, few, mi, mo, mp, zl, lim⟩ := hy
  obtain ⟨bi, ti, mmi, ma, la⟩ := id bg
  (with_reducible refine OpAll.all ?_; intro _ _; refine x_cons ?_; refine x_expr ‹_› ?_ (by with_unfolding_all rfl); refine Call_ ?_ (by with_unfolding_all rfl); refine r_glob ‹_› ‹_› ‹_› (by lks_lit) g_need_writable ?_; refine r_cwA ‹_› kp_48 ?_ (by with_unfolding_all rfl) (by with_unfolding_all rfl); refine args_cons ?_ (by with_unfolding_all rfl); refine r_loc ‹_› ‹_› (by kun_count) ?_; refine args_nil ?_; refine r_le ‹_› (by rfl) ?_)
  refine r_callL (W := [(bd, ob)]) (rest := (td, ot) :: (c, oc) :: (rw, orw) :: marks) S (writable_spec B bg bo) R (by decide) ?_
  rintro _ h1 tk1 g1 _ hle1 S1 rfl
  simp only [List.cons_append, List.nil_append] at S1
  (with_reducible refine x_next ?_; refine x_cons ?_; refine Assign_Tuple ?_ (by with_unfolding_all rfl) (by with_unfolding_all rfl); refine Call_ ?_ (by with_unfolding_all rfl); refine r_glob ‹_› ‹_› ‹_› (by lks_lit) g_reached ?_; refine r_cwA ‹_› kp_62 ?_ (by with_unfolding_all rfl) (by with_unfolding_all rfl); refine args_cons ?_ (by with_unfolding_all rfl); refine r_loc ‹_› ‹_› (by kun_count) ?_; refine args_cons ?_ (by with_unfolding_all rfl); refine r_loc ‹_› ‹_› (by kun_count) ?_; refine args_cons ?_ (by with_unfolding_all rfl); refine r_loc ‹_› ‹_› (by kun_count) ?_; refine args_nil ?_; refine r_le ‹_› (by rfl) ?_)
  refine r_callL (W := [(bd, ob)]) (rest := (td, ot) :: (c, oc) :: (rw, orw) :: marks) S1 (reached_spec B (bg.le hle1) bo ⟨by (first | lia | omega), by (first | lia | omega), by (first | lia | omega)⟩) R (by decide) ?_
  rintro _ h2 tk2 g2 _ hle2 S2 ⟨r2, u1, u2, rfl, hr2, rfl⟩
  simp only [List.cons_append, List.nil_append] at S2
  have hle : Le g g2 := hle1.trans hle2
  have hns2 := hns.le hle
  have hy2 : EdH w.params w g2 b bd t td ms msd rw ls c ob ot oc orw p z txt l marks x y := ⟨bg.le hle, bo, tx, dc, asc, few, fun m hm => (mi m hm).le hle, mo, mp, zl, lim⟩
  (with_reducible refine r_asgT ‹_› ‹_› (by kso_lit) ?_ (by with_unfolding_all rfl) (by with_unfolding_all rfl); intro _ _ _; refine r_asgN ?_; refine r_store ‹_› ‹_› (by kxw_int) ?_; intro _ _; refine r_asgN ?_; refine r_store ‹_› ‹_› (by kxw_int) ?_; intro _ _; refine r_asg0 ?_; refine x_next ?_; refine x_cons ?_; refine wpAny_If ?_; refine wpAny_isTrue_Compare1 ?_ (by with_unfolding_all rfl); refine r_loc ‹_› ‹_› (by kun_count) ?_; refine r_loc ‹_› ‹_› (by kun_count) ?_; refine r_eq ?_; refine wpAny_truthy_bool ?_; refine if_dec ?_ ?_ <;> intro _; refine x_cons ?_; refine x_expr ‹_› ?_ (by with_unfolding_all rfl); refine Call_ ?_ (by with_unfolding_all rfl); refine r_glob ‹_› ‹_› ‹_› (by lks_lit) g_insert_at ?_; refine r_cwA ‹_› kp_119 ?_ (by with_unfolding_all rfl) (by with_unfolding_all rfl); refine args_cons ?_ (by with_unfolding_all rfl); refine r_loc ‹_› ‹_› (by kun_count) ?_; refine args_cons ?_ (by with_unfolding_all rfl); refine r_loc ‹_› ‹_› (by kun_count) ?_; refine args_cons ?_ (by with_unfolding_all rfl); refine r_loc ‹_› ‹_› (by kun_count) ?_; refine args_nil ?_; refine r_le ‹_› (by rfl) ?_; rotate_left; refine wpAny_execs_nil ?_; refine x_next ?_; refine x_cons ?_; refine wpAny_If ?_; refine wpAny_isTrue_Compare1 ?_ (by with_unfolding_all rfl); refine Call_ ?_ (by with_unfolding_all rfl); refine r_glob ‹_› ‹_› ‹_› (by lks_lit) g_len ?_; refine r_cwbA ?_ (by with_unfolding_all rfl) (by with_unfolding_all rfl); refine args_cons ?_ (by with_unfolding_all rfl); refine r_loc ‹_› ‹_› (by kun_count) ?_; refine args_nil ?_; refine r_lenI (by kso_lit) (by kpa_letter) ?_; refine r_int ?_; refine r_eq ?_; refine wpAny_truthy_bool ?_; refine if_dec ?_ ?_ <;> intro _; refine x_cons ?_; refine wpAny_Return_some ?_; refine Call_ ?_ (by with_unfolding_all rfl); refine r_glob ‹_› ‹_› ‹_› (by lks_lit) g_delete ?_; refine r_cwA ‹_› kp_134 ?_ (by with_unfolding_all rfl) (by with_unfolding_all rfl); refine args_cons ?_ (by with_unfolding_all rfl); refine r_loc ‹_› ‹_› (by kun_count) ?_; refine args_cons ?_ (by with_unfolding_all rfl); refine r_loc ‹_› ‹_› (by kun_count) ?_; refine args_cons ?_ (by with_unfolding_all rfl); refine r_loc ‹_› ‹_› (by kun_count) ?_; refine args_nil ?_; refine r_le ‹_› (by rfl) ?_; rotate_left; refine wpAny_execs_nil ?_; refine x_next ?_; refine x_cons ?_; refine x_expr ‹_› ?_ (by with_unfolding_all rfl); refine Call_ ?_ (by with_unfolding_all rfl); refine r_glob ‹_› ‹_› ‹_› (by lks_lit) g_need_room ?_; refine r_cwA ‹_› kp_55 ?_ (by with_unfolding_all rfl) (by with_unfolding_all rfl); refine args_cons ?_ (by with_unfolding_all rfl); refine r_loc ‹_› ‹_› (by kun_count) ?_; refine args_cons ?_ (by with_unfolding_all rfl); refine wpAny_BinOp ?_; refine Call_ ?_ (by with_unfolding_all rfl); refine r_glob ‹_› ‹_› ‹_› (by lks_lit) g_len ?_; refine r_cwbA ?_ (by with_unfolding_all rfl) (by with_unfolding_all rfl); refine args_cons ?_ (by with_unfolding_all rfl); refine r_loc ‹_› ‹_› (by kun_count) ?_; refine args_nil ?_; refine r_lenI (by kso_lit) (by kpa_letter) ?_; refine wpAny_BinOp ?_; refine r_loc ‹_› ‹_› (by kun_count) ?_; refine r_loc ‹_› ‹_› (by kun_count) ?_; refine r_sub ?_; refine r_sub ?_; refine args_nil ?_; refine r_le ‹_› (by rfl) ?_; rotate_left)
  · have exy : x = y := by assumption
    subst exy
    refine r_call0 (by assumption) (insertat_spec B hy2 hns2 hn) R (by decide) ?_
    rintro _ h3 tk3 g3 _ hle3 S3 hq
    (with_reducible refine x_next ?_; refine x_cons ?_; refine wpAny_Return_some ?_; refine List_ ?_; refine args_nil ?_)
    refine r_listI (S := by assumption) ?_
    intro r h4 g4 hle4 hr4 S4
    (with_reducible refine x_ret ?_; refine x_ret ?_; refine OpQ.out ‹_› ?_)
    exact x_end0 S4 hq
  · have e0 : ns = [] := List.eq_nil_of_length_eq_zero (by (first | lia | omega))
    subst e0
    refine r_call0 (by assumption) (delete_spec B hy2 (by (first | lia | omega))) R (by decide) ?_
    rintro _ h3 tk3 g3 _ hle3 S3 hq
    (with_reducible refine x_ret ?_; refine x_ret ?_; refine OpQ.out ‹_› ?_)
    exact x_end0 S3 hq
  have hxy : x < y := by (first | lia | omega)
  refine r_callL (W := [(bd, ob), (td, ot), (c, oc)]) (rest := (rw, orw) :: marks) (by assumption) (room_spec B (bg.le hle) bo tx (n := ns.length - (y - x)) (by (first | lia | omega))) R (by decide) ?_
  rintro _ h3 tk3 g3 _ hle3 S3 rfl
  simp only [List.cons_append, List.nil_append] at S3
  replace hle : Le g g3 := hle.trans hle3
  obtain ⟨_, _, _, _, _, _, _, _, _, _, _, _, ha3⟩ := id bo
  (with_reducible refine x_next ?_; refine x_cons ?_; refine x_assign ?_ (by with_unfolding_all rfl); refine Attribute_any_ ?_ (by with_unfolding_all rfl); refine r_loc ‹_› ‹_› (by kun_count) ?_; refine' r_get ?a161x1 ?a161x2 ?a161x3 ?a161x4 ?a161x5 ?a161x6 ?a161x7 ?_; (case a161x1 => assumption); (case a161x2 => assumption); (case a161x4 => kso_lit); (case a161x3 => exact co_Buffer); (case a161x5 => kso_lit); (case a161x6 => kic_val); (case a161x7 => with_unfolding_all rfl); refine r_store ‹_› ‹_› (by kxw_int) ?_; intro _ _; refine x_next ?_; refine x_cons ?_; refine x_expr ‹_› ?_ (by with_unfolding_all rfl); refine Call_ ?_ (by with_unfolding_all rfl); refine r_glob ‹_› ‹_› ‹_› (by lks_lit) g_tell_ahead ?_; refine r_cwA ‹_› kp_69 ?_ (by with_unfolding_all rfl) (by with_unfolding_all rfl); refine args_cons ?_ (by with_unfolding_all rfl); refine r_loc ‹_› ‹_› (by kun_count) ?_; refine args_cons ?_ (by with_unfolding_all rfl); refine r_loc ‹_› ‹_› (by kun_count) ?_; refine args_cons ?_ (by with_unfolding_all rfl); refine r_loc ‹_› ‹_› (by kun_count) ?_; refine args_nil ?_; refine r_le ‹_› (by rfl) ?_)
  refine r_callL (W := [(bd, ob)]) (rest := (td, ot) :: (c, oc) :: (rw, orw) :: marks) (by assumption) (ahead_spec B (bg.le hle) bo) R (by decide) ?_
  rintro _ h4 tk4 g4 _ hle4 S4 rfl
  simp only [List.cons_append, List.nil_append] at S4
  replace hle : Le g g4 := hle.trans hle4
  (with_reducible refine x_next ?_; refine x_cons ?_; refine x_assign ?_ (by with_unfolding_all rfl); refine Call_ ?_ (by with_unfolding_all rfl); refine r_glob ‹_› ‹_› ‹_› (by lks_lit) g_text_out ?_; refine r_cwA ‹_› kp_83 ?_ (by with_unfolding_all rfl) (by with_unfolding_all rfl); refine args_cons ?_ (by with_unfolding_all rfl); refine r_loc ‹_› ‹_› (by kun_count) ?_; refine args_cons ?_ (by with_unfolding_all rfl); refine r_loc ‹_› ‹_› (by kun_count) ?_; refine args_cons ?_ (by with_unfolding_all rfl); refine r_loc ‹_› ‹_› (by kun_count) ?_; refine args_nil ?_; refine r_le ‹_› (by rfl) ?_)
  refine r_callL (W := [(bd, ob), (td, ot), (c, oc)]) (rest := (rw, orw) :: marks) (by assumption) (out_spec B (bg.le hle) bo tx (x := x) (y := y) ⟨by (first | lia | omega), by (first | lia | omega), by (first | lia | omega)⟩) R (by decide) ?_
  rintro _ h5 tk5 g5 _ hle5 S5 ⟨ob5, ot5, oc5, p5, rfl, bo5, tx5, hp5⟩
  simp only [List.cons_append, List.nil_append] at S5
  replace hle := hle.trans hle5
  have hns5 := hns.le hle
  (with_reducible refine r_store ‹_› ‹_› (by kxw_int) ?_; intro _ _; refine x_next ?_; refine x_cons ?_; refine x_expr ‹_› ?_ (by with_unfolding_all rfl); refine Call_ ?_ (by with_unfolding_all rfl); refine r_glob ‹_› ‹_› ‹_› (by lks_lit) g_text_in ?_; refine r_cwA ‹_› kp_90 ?_ (by with_unfolding_all rfl) (by with_unfolding_all rfl); refine args_cons ?_ (by with_unfolding_all rfl); refine r_loc ‹_› ‹_› (by kun_count) ?_; refine args_cons ?_ (by with_unfolding_all rfl); refine r_loc ‹_› ‹_› (by kun_count) ?_; refine args_cons ?_ (by with_unfolding_all rfl); refine r_loc ‹_› ‹_› (by kun_count) ?_; refine args_nil ?_; refine r_le ‹_› (by rfl) ?_)
  have l5 : ((txt.take (x - 1).toNat ++ txt.drop (y - 1).toNat).length : Int) = txt.length - (y - x) := by
    have e := rep_length (t := txt) (ns := []) (x := x) (y := y) ⟨by (first | lia | omega), by (first | lia | omega), by (first | lia | omega)⟩
    rw [rep_del] at e
    rw [e]
    show (txt.length : Int) + 0 - (y - x) = _
    rw [Int.add_zero]
  refine r_callL (W := [(bd, ob5), (td, ot5), (c, oc5)]) (rest := (rw, orw) :: marks) (by assumption) (in_spec B (bg.le hle) bo5 tx5 hns5 (x := x) ⟨by (first | lia | omega), by (first | lia | omega), hn, by (first | lia | omega)⟩) R (by decide) ?_
  rintro _ h6 tk6 g6 _ hle6 S6 ⟨ob6, ot6, oc6, p6, rfl, bo6, tx6, hp6⟩
  simp only [List.cons_append, List.nil_append] at S6
  rw [rep_two ⟨by (first | lia | omega), by (first | lia | omega), by (first | lia | omega)⟩] at tx6
  replace hle := hle.trans hle6
  have hns6 := hns.le hle
  obtain ⟨_, _, _, _, _, _, _, _, _, _, _, _, ha6⟩ := id bo6
  refine x_next (x_join (fun s' => Ex6 fun h7 tk7 ob7 p7 tp v8 => An4 (s' = ⟨h7, gs, dr, tk7, os⟩) (St (ent G H g ((bd, ob) :: (td, ot) :: (c, oc) :: (rw, orw) :: marks)) ["buffer", "start", "end", "codes", "rows", "low", "high", "point", "gone"] L g6 h7 [some (.ref b), some (.int x t1), some (.int y t2), some (.ref n), some .none, some (.int x u1), some (.int y u2), some (.int p tp), some v8] ((bd, ob7) :: (td, ot6) :: (c, oc6) :: (rw, orw) :: marks)) (BufO w.params ob7 t ms ls p7 (z - (y - x) + ns.length)) (p7 = if y ≤ p then p + ns.length - (y - x) else p6)) ?_ ?_)
  · (with_reducible refine OpAll.all ?_; intro _ _; refine wpAny_If ?_; refine wpAny_isTrue_Compare1 ?_ (by with_unfolding_all rfl); refine r_loc ‹_› ‹_› (by kun_count) ?_; refine r_loc ‹_› ‹_› (by kun_count) ?_; refine r_gte ?_; refine wpAny_truthy_bool ?_; refine if_dec ?_ ?_ <;> intro _; refine x_cons ?_; refine plainObj_wpAny_Assign_Attribute ?_ (by with_unfolding_all rfl); refine wpAny_BinOp ?_; refine wpAny_BinOp ?_; refine r_loc ‹_› ‹_› (by kun_count) ?_; refine Call_ ?_ (by with_unfolding_all rfl); refine r_glob ‹_› ‹_› ‹_› (by lks_lit) g_len ?_; refine r_cwbA ?_ (by with_unfolding_all rfl) (by with_unfolding_all rfl); refine args_cons ?_ (by with_unfolding_all rfl); refine r_loc ‹_› ‹_› (by kun_count) ?_; refine args_nil ?_; refine r_lenI (by kso_lit) (by kpa_letter) ?_; refine r_add ?_; refine wpAny_BinOp ?_; refine r_loc ‹_› ‹_› (by kun_count) ?_; refine r_loc ‹_› ‹_› (by kun_count) ?_; refine r_sub ?_; refine r_sub ?_; refine r_loc ‹_› ‹_› (by kun_count) ?_; refine' r_set ?a162x1 ?a162x2 ?a162x3 ?a162x4 ?a162x5 ?a162x6 ?a162x7 ?_; (case a162x1 => assumption); (case a162x2 => assumption); (case a162x4 => kso_lit); (case a162x3 => exact co_Buffer); (case a162x5 => kxw_text); (case a162x6 => assumption); (case a162x7 => kctr_letter); intro _ _ _ _; refine x_next ?_; refine wpAny_execs_nil ?_; refine OpQ.out ‹_› ?_; rotate_left; refine wpAny_execs_nil ?_; refine OpQ.out ‹_› ?_; rotate_left)
    · exact ⟨rfl, _, _, _, _, _, _, rfl, by assumption, ⟨_, _, _, _, _, _, _, _, _, _, _, _, by assumption⟩, by rw [if_pos (by assumption)]⟩
    · exact ⟨rfl, _, _, _, _, _, _, rfl, by assumption, bo6, by rw [if_neg (by assumption)]⟩
  rintro _ ⟨h7, tk7, ob7, p7, tp, v8, rfl, S7, bo7, hp7⟩
  obtain ⟨_, _, _, _, _, _, _, _, _, _, _, _, ha7⟩ := id bo7
  (with_reducible refine x_cons ?_; refine x_expr ‹_› ?_ (by with_unfolding_all rfl); refine MethodCall_ ?_ (by with_unfolding_all rfl); refine Attribute_any_ ?_ (by with_unfolding_all rfl); refine r_loc ‹_› ‹_› (by kun_count) ?_; refine' r_get ?a163x1 ?a163x2 ?a163x3 ?a163x4 ?a163x5 ?a163x6 ?a163x7 ?_; (case a163x1 => assumption); (case a163x2 => assumption); (case a163x4 => kso_lit); (case a163x3 => exact co_Buffer); (case a163x5 => kso_lit); (case a163x6 => kic_val); (case a163x7 => with_unfolding_all rfl); refine' r_meth ?a164x1 ?a164x2 ?a164x3 ?a164x4 ?a164x5 ?a164x6 ?_; (case a164x1 => assumption); (case a164x2 => assumption); (case a164x4 => kso_lit); (case a164x3 => exact co_Markers); (case a164x5 => kso_lit); (case a164x6 => exact me_Markers_replaced); refine r_cwB ‹_› kp_407 ?_ (by with_unfolding_all rfl) (by with_unfolding_all rfl); refine args_cons ?_ (by with_unfolding_all rfl); refine r_loc ‹_› ‹_› (by kun_count) ?_; refine args_cons ?_ (by with_unfolding_all rfl); refine r_loc ‹_› ‹_› (by kun_count) ?_; refine args_cons ?_ (by with_unfolding_all rfl); refine Call_ ?_ (by with_unfolding_all rfl); refine r_glob ‹_› ‹_› ‹_› (by lks_lit) g_len ?_; refine r_cwbA ?_ (by with_unfolding_all rfl) (by with_unfolding_all rfl); refine args_cons ?_ (by with_unfolding_all rfl); refine r_loc ‹_› ‹_› (by kun_count) ?_; refine args_nil ?_; refine r_lenI (by kso_lit) (by kpa_letter) ?_; refine args_nil ?_; refine r_le ‹_› (by rfl) ?_)
  refine r_call (W := (rw, orw) :: marks) (rest := [(bd, ob7), (td, ot6), (c, oc6)]) S7 (List.perm_append_comm (l₁ := [(bd, ob7), (td, ot6), (c, oc6)])) (replaced_spec B (mmi.le hle) (ma.le hle) dc asc few (fun m hm => (mi m hm).le hle) mo hxy mp) R (by decide) ?_
  rintro _ h8 tk8 g8 _ hle8 S8 ⟨marks8, rfl, mo8⟩
  have S8 := S8.perm (List.perm_append_comm (l₂ := [(bd, ob7), (td, ot6), (c, oc6)]))
  simp only [List.cons_append, List.nil_append] at S8
  replace hle := hle.trans hle8
  have hns8 := hns.le hle
  (with_reducible refine x_next ?_; refine x_cons ?_; refine x_expr ‹_› ?_ (by with_unfolding_all rfl); refine Call_ ?_ (by with_unfolding_all rfl); refine r_glob ‹_› ‹_› ‹_› (by lks_lit) g_hung_in ?_; refine r_cwA ‹_› kp_104 ?_ (by with_unfolding_all rfl) (by with_unfolding_all rfl); refine args_cons ?_ (by with_unfolding_all rfl); refine r_loc ‹_› ‹_› (by kun_count) ?_; refine args_cons ?_ (by with_unfolding_all rfl); refine r_loc ‹_› ‹_› (by kun_count) ?_; refine args_cons ?_ (by with_unfolding_all rfl); refine Call_ ?_ (by with_unfolding_all rfl); refine r_glob ‹_› ‹_› ‹_› (by lks_lit) g_len ?_; refine r_cwbA ?_ (by with_unfolding_all rfl) (by with_unfolding_all rfl); refine args_cons ?_ (by with_unfolding_all rfl); refine r_loc ‹_› ‹_› (by kun_count) ?_; refine args_nil ?_; refine r_lenI (by kso_lit) (by kpa_letter) ?_; refine args_cons ?_ (by with_unfolding_all rfl); refine wpAny_Constant_bool ?_; refine args_nil ?_; refine r_le ‹_› (by rfl) ?_)
  refine r_callL (W := [(bd, ob7)]) (rest := (td, ot6) :: (c, oc6) :: (rw, orw) :: marks8) S8 (hungin_spec B (bg.le hle) bo7) R (by decide) ?_
  rintro _ h9 tk9 g9 _ hle9 S9 rfl
  simp only [List.cons_append, List.nil_append] at S9
  replace hle := hle.trans hle9
  have hns9 := hns.le hle
  (with_reducible refine x_next ?_; refine x_cons ?_; refine x_expr ‹_› ?_ (by with_unfolding_all rfl); refine Call_ ?_ (by with_unfolding_all rfl); refine r_glob ‹_› ‹_› ‹_› (by lks_lit) g_hung_out ?_; refine r_cwA ‹_› kp_97 ?_ (by with_unfolding_all rfl) (by with_unfolding_all rfl); refine args_cons ?_ (by with_unfolding_all rfl); refine r_loc ‹_› ‹_› (by kun_count) ?_; refine args_cons ?_ (by with_unfolding_all rfl); refine r_loc ‹_› ‹_› (by kun_count) ?_; refine args_cons ?_ (by with_unfolding_all rfl); refine r_loc ‹_› ‹_› (by kun_count) ?_; refine args_nil ?_; refine r_le ‹_› (by rfl) ?_)
  refine r_callL (W := [(bd, ob7)]) (rest := (td, ot6) :: (c, oc6) :: (rw, orw) :: marks8) S9 (hungout_spec B (bg.le hle) bo7) R (by decide) ?_
  rintro _ ha tka ga _ hlea Sa rfl
  simp only [List.cons_append, List.nil_append] at Sa
  replace hle := hle.trans hlea
  have hnsa := hns.le hle
  (with_reducible refine x_next ?_; refine x_cons ?_; refine wpAny_If ?_; refine wpAny_isTrue_Compare1 ?_ (by with_unfolding_all rfl); refine r_loc ‹_› ‹_› (by kun_count) ?_; refine wpAny_Constant_none ?_; refine r_isNN ?_; refine wpAny_truthy_bool ?_; refine if_f ?_; refine wpAny_execs_nil ?_; refine x_next ?_; refine x_cons ?_; refine x_expr ‹_› ?_ (by with_unfolding_all rfl); refine Call_ ?_ (by with_unfolding_all rfl); refine r_glob ‹_› ‹_› ‹_› (by lks_lit) g_tell_behind ?_; refine r_cwA ‹_› kp_76 ?_ (by with_unfolding_all rfl) (by with_unfolding_all rfl); refine args_cons ?_ (by with_unfolding_all rfl); refine r_loc ‹_› ‹_› (by kun_count) ?_; refine args_cons ?_ (by with_unfolding_all rfl); refine r_loc ‹_› ‹_› (by kun_count) ?_; refine args_cons ?_ (by with_unfolding_all rfl); refine wpAny_BinOp ?_; refine r_loc ‹_› ‹_› (by kun_count) ?_; refine Call_ ?_ (by with_unfolding_all rfl); refine r_glob ‹_› ‹_› ‹_› (by lks_lit) g_len ?_; refine r_cwbA ?_ (by with_unfolding_all rfl) (by with_unfolding_all rfl); refine args_cons ?_ (by with_unfolding_all rfl); refine r_loc ‹_› ‹_› (by kun_count) ?_; refine args_nil ?_; refine r_lenI (by kso_lit) (by kpa_letter) ?_; refine r_add ?_; refine args_cons ?_ (by with_unfolding_all rfl); refine wpAny_BinOp ?_; refine r_loc ‹_› ‹_› (by kun_count) ?_; refine r_loc ‹_› ‹_› (by kun_count) ?_; refine r_sub ?_; refine args_nil ?_; refine r_le ‹_› (by rfl) ?_)
  refine r_callL (W := [(bd, ob7)]) (rest := (td, ot6) :: (c, oc6) :: (rw, orw) :: marks8) Sa (behind_spec B (bg.le hle) bo7) R (by decide) ?_
  rintro _ hb tkb gb _ hleb Sb ⟨obb, rfl, bob⟩
  simp only [List.cons_append, List.nil_append] at Sb
  (with_reducible refine x_next ?_; refine x_cons ?_; refine wpAny_Return_some ?_; refine r_loc ‹_› ‹_› (by kun_count) ?_; refine x_ret ?_; refine OpQ.out ‹_› ?_)
  refine x_end0 Sb ⟨obb, ot6, oc6, marks8, p7, rfl, ?_, fun _ hz => ?_, tx6, ?_⟩
  · rw [show z + (ns.length : Int) - (y - x) = z - (y - x) + ns.length by (first | lia | omega)]; exact bob
  · rw [hp7]
    by_cases hyp : y ≤ p
    · rw [if_pos hyp]; unfold sh; rw [if_pos (by (first | lia | omega))]
    · rw [if_neg hyp]; exact sh_rep2 x y _ p p5 p6 hz hxy hp5 hp6 hyp
  · exact mo8
end
section
variable {w : World} {G H g : Heap} {mg mb : Str → Option Value}
theorem put_spec (B : Base (A0.heap_1_1 w.params) G mg mb) {ms msd rw x dx b : Addr} {orw om : Obj} {kvs : List (Int × Value)} {num pos p0 : Int} {adv : Bool} {t t1 t2 : Tok} (mi : Inst g ms 410 msd) (ma : AttrsAt w.params g msd ["rows"] [.ref rw]) (xi : Inst g x 342 dx) (dc : DctO PG w rw orw kvs) (hz : kvs.length ≤ 100) (ho : AttrsO w.params om ["number", "advances", "buffer", "position"] [.int num t1, .bool adv, .ref b, .int p0 t2]) :
    Fn PG w (.ref 372) 10 [.ref ms, .ref x, .int pos t] G H g [(rw, orw), (dx, om)] (fun _ _ W' => Ex2 fun orw' om' => An3 (W' = [(rw, orw'), (dx, om')]) (DctO PG w rw orw' (stored kvs num (.ref x))) (MkO w.params b ⟨num, x, dx, adv, pos⟩ om')) := by
  refine fn_def [("self", .ref ms), ("marker", .ref x), ("position", .int pos t)] ["self", "marker", "position"] [] [some (.ref ms), some (.ref x), some (.int pos t)] (more := []) B (by k_is) (by k_is) (fun s _ => BindsTo.of_eq rfl) rfl rfl (by decide +kernel) ?_
  intro A h gs dr tk os L R sc S
  (with_reducible refine OpAll.all ?_; intro _ _; refine x_cons ?_; refine wpAny_Assign_Subscript ?_ (by with_unfolding_all rfl); refine r_loc ‹_› ‹_› (by kun_count) ?_; refine Attribute_any_ ?_ (by with_unfolding_all rfl); refine r_loc ‹_› ‹_› (by kun_count) ?_; refine' r_get ?a165x1 ?a165x2 ?a165x3 ?a165x4 ?a165x5 ?a165x6 ?a165x7 ?_; (case a165x1 => assumption); (case a165x2 => assumption); (case a165x4 => kso_lit); (case a165x3 => exact co_Markers); (case a165x5 => kso_lit); (case a165x6 => kic_val); (case a165x7 => with_unfolding_all rfl); refine Attribute_any_ ?_ (by with_unfolding_all rfl); refine r_loc ‹_› ‹_› (by kun_count) ?_; refine' r_get ?a166x1 ?a166x2 ?a166x3 ?a166x4 ?a166x5 ?a166x6 ?a166x7 ?_; (case a166x1 => assumption); (case a166x2 => assumption); (case a166x4 => kso_lit); (case a166x3 => exact co_Marker); (case a166x5 => kso_lit); (case a166x6 => kic_val); (case a166x7 => with_unfolding_all rfl))
  refine r_setD (S := S) dc (by kxw_text) (by (first | lia | omega)) ?_
  intro h1 orw1 dc1 S1
  (with_reducible refine x_next ?_; refine x_cons ?_; refine plainObj_wpAny_Assign_Attribute ?_ (by with_unfolding_all rfl); refine r_loc ‹_› ‹_› (by kun_count) ?_; refine r_loc ‹_› ‹_› (by kun_count) ?_; refine' r_set ?a167x1 ?a167x2 ?a167x3 ?a167x4 ?a167x5 ?a167x6 ?a167x7 ?_; (case a167x1 => assumption); (case a167x2 => assumption); (case a167x4 => kso_lit); (case a167x3 => exact co_Marker); (case a167x5 => kxw_text); (case a167x6 => assumption); (case a167x7 => kctr_letter); intro _ _ _ _; refine x_next ?_; refine wpAny_execs_nil ?_; refine OpQ.out ‹_› ?_)
  exact x_endN0 (by assumption) ⟨_, _, rfl, dc1, _, _, by assumption⟩
theorem setmarker_spec (B : Base (A0.heap_1_1 w.params) G mg mb) {b bd t td ms msd rw ls c x dx : Addr} {ob ot oc orw om : Obj} {txt : List Int} {kvs : List (Int × Value)} {p z num place p0 : Int} {adv : Bool} {u t1 t2 : Tok}
    (bg : BufG w.params g b bd t td ms msd rw ls) (bo : BufO w.params ob t ms ls p z) (tx : TxtO w.params ot oc c txt) (dc : DctO PG w rw orw kvs) (hz : kvs.length ≤ 100) (xi : Inst g x 342 dx) (ho : AttrsO w.params om ["number", "advances", "buffer", "position"] [.int num t1, .bool adv, .none, .int p0 t2]) (hp : 1 ≤ place ∧ place ≤ txt.length + 1) :
    Fn PG w (.ref 525) 16 [.ref x, .ref b, .int place u] G H g [(bd, ob), (td, ot), (c, oc), (rw, orw), (dx, om)] (fun _ _ W' => Ex2 fun orw' om' => An3 (W' = [(bd, ob), (td, ot), (c, oc), (rw, orw'), (dx, om')]) (DctO PG w rw orw' (stored kvs num (.ref x))) (MkO w.params b ⟨num, x, dx, adv, place⟩ om')) := by
  refine fn_def [("marker", .ref x), ("buffer", .ref b), ("place", .int place u)] ["marker", "buffer", "place"] ["min", "max"] [some (.ref x), some (.ref b), some (.int place u)] (more := []) B (by k_is) (by k_is) (fun s _ => BindsTo.of_eq rfl) rfl rfl (by decide +kernel) ?_
  intro A h gs dr tk os L R sc S
  obtain ⟨bi, ti, mi, ma, la⟩ := id bg
  obtain ⟨_, _, _, _, _, _, _, _, _, _, _, _, hba⟩ := id bo
  obtain ⟨cells, ga, ge, hgo, hgt, hgl⟩ := id tx
  (with_reducible refine OpAll.all ?_; intro _ _; refine x_cons ?_; refine wpAny_If ?_; refine isTrue_and ?_; refine wpAny_isTrue_Compare1 ?_ (by with_unfolding_all rfl); refine Attribute_any_ ?_ (by with_unfolding_all rfl); refine r_loc ‹_› ‹_› (by kun_count) ?_; refine' r_get ?a168x1 ?a168x2 ?a168x3 ?a168x4 ?a168x5 ?a168x6 ?a168x7 ?_; (case a168x1 => assumption); (case a168x2 => assumption); (case a168x4 => kso_lit); (case a168x3 => exact co_Marker); (case a168x5 => kso_lit); (case a168x6 => kic_val); (case a168x7 => with_unfolding_all rfl); refine wpAny_Constant_none ?_; refine r_isNN ?_; refine wpAny_truthy_bool ?_; refine if_f ?_; refine if_f ?_; refine wpAny_execs_nil ?_; refine x_next ?_; refine x_cons ?_; refine plainObj_wpAny_Assign_Attribute ?_ (by with_unfolding_all rfl); refine r_loc ‹_› ‹_› (by kun_count) ?_; refine r_loc ‹_› ‹_› (by kun_count) ?_; refine' r_set ?a169x1 ?a169x2 ?a169x3 ?a169x4 ?a169x5 ?a169x6 ?a169x7 ?_; (case a169x1 => assumption); (case a169x2 => assumption); (case a169x4 => kso_lit); (case a169x3 => exact co_Marker); (case a169x5 => kxw_text); (case a169x6 => assumption); (case a169x7 => kctr_letter); intro _ _ _ _; refine x_next ?_; refine x_cons ?_; refine wpAny_If ?_; refine wpAny_isTrue_Compare1 ?_ (by with_unfolding_all rfl); refine r_loc ‹_› ‹_› (by kun_count) ?_; refine wpAny_Constant_none ?_; refine r_isR ?_; refine wpAny_truthy_bool ?_; refine if_f ?_; refine x_cons ?_; refine x_expr ‹_› ?_ (by with_unfolding_all rfl); refine MethodCall_ ?_ (by with_unfolding_all rfl); refine Attribute_any_ ?_ (by with_unfolding_all rfl); refine r_loc ‹_› ‹_› (by kun_count) ?_; refine' r_get ?a170x1 ?a170x2 ?a170x3 ?a170x4 ?a170x5 ?a170x6 ?a170x7 ?_; (case a170x1 => assumption); (case a170x2 => assumption); (case a170x4 => kso_lit); (case a170x3 => exact co_Buffer); (case a170x5 => kso_lit); (case a170x6 => kic_val); (case a170x7 => with_unfolding_all rfl); refine' r_meth ?a171x1 ?a171x2 ?a171x3 ?a171x4 ?a171x5 ?a171x6 ?_; (case a171x1 => assumption); (case a171x2 => assumption); (case a171x4 => kso_lit); (case a171x3 => exact co_Markers); (case a171x5 => kso_lit); (case a171x6 => exact me_Markers_put); refine r_cwB ‹_› kp_372 ?_ (by with_unfolding_all rfl) (by with_unfolding_all rfl); refine args_cons ?_ (by with_unfolding_all rfl); refine r_loc ‹_› ‹_› (by kun_count) ?_; refine args_cons ?_ (by with_unfolding_all rfl); refine Call_ ?_ (by with_unfolding_all rfl); refine r_glob ‹_› ‹_› ‹_› (by lks_lit) g_min ?_; refine r_cwbA ?_ (by with_unfolding_all rfl) (by with_unfolding_all rfl); refine args_cons ?_ (by with_unfolding_all rfl); refine Call_ ?_ (by with_unfolding_all rfl); refine r_glob ‹_› ‹_› ‹_› (by lks_lit) g_max ?_; refine r_cwbA ?_ (by with_unfolding_all rfl) (by with_unfolding_all rfl); refine args_cons ?_ (by with_unfolding_all rfl); refine r_loc ‹_› ‹_› (by kun_count) ?_; refine args_cons ?_ (by with_unfolding_all rfl); refine r_int ?_; refine args_nil ?_; refine r_max ‹_› ‹_› ?_; intro _ _ _ _; refine args_cons ?_ (by with_unfolding_all rfl); refine wpAny_BinOp ?_; refine MethodCall_ ?_ (by with_unfolding_all rfl); refine r_loc ‹_› ‹_› (by kun_count) ?_; refine' r_meth ?a172x1 ?a172x2 ?a172x3 ?a172x4 ?a172x5 ?a172x6 ?_; (case a172x1 => assumption); (case a172x2 => assumption); (case a172x4 => kso_lit); (case a172x3 => exact co_Buffer); (case a172x5 => kso_lit); (case a172x6 => exact me_Buffer_size); refine r_cw0B ‹_› ‹_› kp_464 ?_)
  rename_i o1 ho1 _ _ _ _ S1
  refine r_callL (W := [(bd, ob), (td, ot), (c, oc)]) (rest := [(rw, orw), (dx, o1)]) S1 (bsize_spec B bg bo hgo) R (by decide) ?_
  rintro _ h2 tk2 g2 _ hle2 S2 ⟨rfl, k, rfl⟩
  rw [hgt] at *
  simp only [List.cons_append, List.nil_append] at S2
  have xi2 := xi.le hle2
  have bg2 := bg.le hle2
  (with_reducible refine r_int ?_; refine r_add ?_; refine args_nil ?_; refine r_min ‹_› ‹_› ?_; intro _ _ _ _; refine args_nil ?_; refine r_le ‹_› (by rfl) ?_)
  have em : min (max place 1) ((txt.length : Int) + 1) = place := by (first | lia | omega)
  refine r_call (W := [(rw, orw), (dx, o1)]) (rest := [(bd, ob), (td, ot), (c, oc)]) (by assumption) (List.perm_append_comm (l₁ := [(bd, ob), (td, ot), (c, oc)])) (put_spec B bg2.mi bg2.ma xi2 dc hz ho1) R (by decide) ?_
  rintro _ h3 tk3 g3 _ hle3 S3 ⟨orw3, om3, rfl, dc3, mk3⟩
  rw [em] at mk3
  have S4 := S3.perm (List.perm_append_comm (l₂ := [(bd, ob), (td, ot), (c, oc)]))
  simp only [List.cons_append, List.nil_append] at S4
  (with_reducible refine x_next ?_; refine wpAny_execs_nil ?_; refine x_next ?_; refine wpAny_execs_nil ?_; refine OpQ.out ‹_› ?_)
  exact x_endN0 S4 ⟨orw3, om3, rfl, dc3, mk3⟩
end
section
variable {w : World} {G H g : Heap} {mg mb : Str → Option Value}
theorem blanks_in {K : Frag} {o : Obj} (X : K.In G) (h : K.lookup 143 = some o) : G.get? 143 = some o := X _ _ h
theorem blanks_at (B : Base (A0.heap_1_1 w.params) G mg mb) : ∃ t1 t2 t3, TupAt G 143 [.int 9 t1, .int 10 t2, .int 32 t3] := ⟨_, _, _, _, blanks_in B.X (by k_is)⟩
theorem spans_spec (B : Base (A0.heap_1_1 w.params) G mg mb) {n : Addr} {ns : List Int} (hns : IntsAt g n ns) (hn : ns.length ≤ 2000) :
    Fn PG w (.ref 150) 10 [.ref n] G H g [] (fun v g' W' => Ex2 fun r vs => An4 (v = .ref r) (LstAt g' r vs) (LsAre PrAt g' vs (spans 0 ns)) (W' = [])) := by
  refine fn_def [("codes", .ref n)] ["codes", "found", "at", "begin"] ["len", "BLANKS"] [some (.ref n), none, none, none] (more := ["found", "at", "begin"]) B (by k_is) (by k_is) (fun s _ => BindsTo.of_eq rfl) rfl rfl (by decide +kernel) ?_
  intro A h gs dr tk os L R sc S
  obtain ⟨b1, b2, b3, hbl⟩ := blanks_at B
  have hbl : TupAt g 143 [.int 9 b1, .int 10 b2, .int 32 b3] := hbl.le fun b o q => S.mem.G0 b o q
  (with_reducible refine OpAll.all ?_; intro _ _; refine x_cons ?_; refine x_assign ?_ (by with_unfolding_all rfl); refine List_ ?_; refine args_nil ?_)
  refine r_list (S := by assumption) ?_
  intro f h1 of hof S1
  (with_reducible refine r_store ‹_› ‹_› (by kxw_int) ?_; intro _ _; refine x_next ?_; refine x_cons ?_; refine x_assign ?_ (by with_unfolding_all rfl); refine r_int ?_; refine r_store ‹_› ‹_› (by kxw_int) ?_; intro _ _; refine x_next ?_; refine x_cons ?_)
  refine x_while (S := by assumption) (fun k g' vals' news' => Ex7 fun (a : Int) (j : Nat) ta bb of vs dn => An9 (a = j) (k = ns.length - j) (vals' = [some (.ref n), some (.ref f), some (.int a ta), bb]) (news' = [(f, of)]) (LstO of vs) (LsAre PrAt g' vs dn) (dn ++ spans j (ns.drop j) = spans 0 ns) (dn.length ≤ j) (j ≤ ns.length + 1)) (ns.length - 0) ⟨0, 0, _, _, _, _, [], rfl, rfl, rfl, rfl, hof, .nil, rfl, Nat.le_refl _, Nat.zero_le _⟩ ?_
  rintro _ g2 h2 tk2 _ _ hle2 S2 ⟨a, j, ta, bb, of, vs, dn, ea, rfl, rfl, rfl, hof, hvs, hdone, hlen, hj⟩
  have hns2 := hns.le hle2
  have hbl2 := hbl.le hle2
  (with_reducible refine OpAll.all ?_; intro _ _; refine OpAll.all ?_; intro _ _; refine wpAny_isTrue_Compare1 ?_ (by with_unfolding_all rfl); refine r_loc ‹_› ‹_› (by kun_count) ?_; refine Call_ ?_ (by with_unfolding_all rfl); refine r_glob ‹_› ‹_› ‹_› (by lks_lit) g_len ?_; refine r_cwbA ?_ (by with_unfolding_all rfl) (by with_unfolding_all rfl); refine args_cons ?_ (by with_unfolding_all rfl); refine r_loc ‹_› ‹_› (by kun_count) ?_; refine args_nil ?_; refine r_lenI (by kso_lit) (by kpa_letter) ?_; refine r_lt ?_; refine wpAny_truthy_bool ?_; refine if_dec ?_ ?_ <;> intro _; refine x_cons ?_; refine x_assign ?_ (by with_unfolding_all rfl); refine r_loc ‹_› ‹_› (by kun_count) ?_; refine r_store ‹_› ‹_› (by kxw_int) ?_; intro _ _; refine x_next ?_; refine x_cons ?_; rotate_left; refine OpQ.out ‹_› ?_; refine x_next ?_; refine x_cons ?_; refine wpAny_Return_some ?_; refine r_loc ‹_› ‹_› (by kun_count) ?_; refine x_ret ?_; refine OpQ.out ‹_› ?_; rotate_left)
  · refine x_mid (fun s' => Ex5 fun g3 h3 tk3 (i : Nat) ti => An6 (s' = ⟨h3, gs, dr, tk3, os⟩) (Le g2 g3) (j ≤ i) (i ≤ ns.length) (wlen (ns.drop j) = i - j) (St (ent G H g []) ["codes", "found", "at", "begin"] L g3 h3 [some (.ref n), some (.ref f), some (.int i ti), some (.int a ta)] [(f, of)])) ?_ ?_
    · refine OpAll.all fun T hT => ?_
      refine x_while (S := by assumption) (fun k g' vals' news' => Ex3 fun (a' : Int) (i : Nat) ta' => An7 (a' = i) (k = ns.length - i) (j ≤ i) (i ≤ ns.length) (wlen (ns.drop j) = (i - j) + wlen (ns.drop i)) (vals' = [some (.ref n), some (.ref f), some (.int a' ta'), some (.int a ta)]) (news' = [(f, of)])) (ns.length - j) ⟨a, j, ta, ea, rfl, Nat.le_refl _, by (first | lia | omega), by (first | lia | omega), rfl, rfl⟩ ?_
      rintro _ g3 h3 tk3 _ _ hle3 S3 ⟨a', i, ta', ea', rfl, hji, hin, hw, rfl, rfl⟩
      have hns3 := hns2.le hle3
      have hbl3 := hbl2.le hle3
      subst ea'
      (with_reducible refine OpAll.all ?_; intro _ _; refine OpAll.all ?_; intro _ _; refine isTrue_and ?_; refine wpAny_isTrue_Compare1 ?_ (by with_unfolding_all rfl); refine r_loc ‹_› ‹_› (by kun_count) ?_; refine Call_ ?_ (by with_unfolding_all rfl); refine r_glob ‹_› ‹_› ‹_› (by lks_lit) g_len ?_; refine r_cwbA ?_ (by with_unfolding_all rfl) (by with_unfolding_all rfl); refine args_cons ?_ (by with_unfolding_all rfl); refine r_loc ‹_› ‹_› (by kun_count) ?_; refine args_nil ?_; refine r_lenI (by kso_lit) (by kpa_letter) ?_; refine r_lt ?_; refine wpAny_truthy_bool ?_; refine if_dec ?_ ?_ <;> intro _; refine isTrue_and ?_; refine wpAny_isTrue_Compare1 ?_ (by with_unfolding_all rfl); refine Subscript_ ?_; refine r_loc ‹_› ‹_› (by kun_count) ?_; refine r_loc ‹_› ‹_› (by kun_count) ?_; refine r_itemI (by kso_lit) (by kpa_letter) ?_ (by with_unfolding_all rfl); intro _; refine r_glob ‹_› ‹_› ‹_› (by lks_lit) g_BLANKS ?_; refine r_notInT (by kso_lit) (by apply IntsAre.cons; kda_here) ?_; refine wpAny_truthy_bool ?_; refine if_ndec ?_ ?_ <;> intro _; refine isTrue_and_nil ?_; refine if_t ?_; refine x_cons ?_; refine x_assign ?_ (by with_unfolding_all rfl); refine wpAny_BinOp ?_; refine r_loc ‹_› ‹_› (by kun_count) ?_; refine r_int ?_; refine r_add ?_; refine r_store ‹_› ‹_› (by kxw_int) ?_; intro _ _; refine x_next ?_; refine wpAny_execs_nil ?_; refine OpQ.out ‹_› ?_; rotate_left; refine if_f ?_; refine OpQ.out ‹_› ?_; refine OpQ.out ‹_› ?_; rotate_left; refine if_f ?_; refine OpQ.out ‹_› ?_; refine OpQ.out ‹_› ?_; rotate_left)
      · have hx : ¬ ns.getD i 0 ∈ ([9, 10, 32] : List Int) := by assumption
        have hlt : i < ns.length := by (first | lia | omega)
        have := wlen_step hlt hx
        exact ⟨ns.length - (i + 1), _, _, _, _, _, by (first | lia | omega), rfl, Le.rfl, by assumption, _, i + 1, _, by (first | lia | omega), rfl, by (first | lia | omega), hlt, by (first | lia | omega), rfl, rfl⟩
      · rw [wlen_stop (l := ns) (k := i) fun h => by first | assumption | (exfalso; (first | lia | omega))] at hw
        exact ⟨rfl, g3, _, _, i, _, rfl, hle3, hji, hin, by (first | lia | omega), S3⟩
      · rw [wlen_stop (l := ns) (k := i) fun h => by first | assumption | (exfalso; (first | lia | omega))] at hw
        exact ⟨rfl, g3, _, _, i, _, rfl, hle3, hji, hin, by (first | lia | omega), S3⟩
    · rintro _ ⟨g3, h3, tk3, i, ti, rfl, hle3, hji, hin, hw, S3⟩
      (with_reducible refine x_next ?_; refine x_cons ?_; refine wpAny_If ?_; refine wpAny_isTrue_Compare1 ?_ (by with_unfolding_all rfl); refine r_loc ‹_› ‹_› (by kun_count) ?_; refine r_loc ‹_› ‹_› (by kun_count) ?_; refine r_gt ?_; refine wpAny_truthy_bool ?_; refine if_dec ?_ ?_ <;> intro _; refine x_cons ?_; refine x_expr ‹_› ?_ (by with_unfolding_all rfl); refine MethodCall_ ?_ (by with_unfolding_all rfl); refine r_loc ‹_› ‹_› (by kun_count) ?_; refine r_method (by kso_lit) PySem.F.slot_list_append PySem.F.type_list_append ?_; refine r_cwbB ?_ (by with_unfolding_all rfl) (by with_unfolding_all rfl); refine args_cons ?_ (by with_unfolding_all rfl); refine Tuple_ ?_; refine args_cons ?_ (by with_unfolding_all rfl); refine r_loc ‹_› ‹_› (by kun_count) ?_; refine args_cons ?_ (by with_unfolding_all rfl); refine r_loc ‹_› ‹_› (by kun_count) ?_; refine args_nil ?_; rotate_left; refine x_cons ?_; refine x_assign ?_ (by with_unfolding_all rfl); refine wpAny_BinOp ?_; refine r_loc ‹_› ‹_› (by kun_count) ?_; refine r_int ?_; refine r_add ?_; refine r_store ‹_› ‹_› (by kxw_int) ?_; intro _ _; refine x_next ?_; refine wpAny_execs_nil ?_; refine x_next ?_; refine wpAny_execs_nil ?_; refine OpQ.out ‹_› ?_; rotate_left)
      · refine r_tupI (S := by assumption) ?_
        intro T h4 g4 hle4 hT S4
        (with_reducible refine args_nil ?_)
        refine r_append (S := by assumption) hof (by kxw_text) (by rw [hvs.length, sizeLine_eq]; (first | lia | omega)) ?_
        intro h5 of5 hof5 S5
        (with_reducible refine x_next ?_; refine wpAny_execs_nil ?_; refine x_next ?_; refine wpAny_execs_nil ?_; refine OpQ.out ‹_› ?_)
        exact ⟨ns.length - i, _, _, _, _, _, by (first | lia | omega), rfl, hle3.trans hle4, by assumption, _, i, _, _, _, _, dn ++ [((j : Int), (i : Int))], rfl, rfl, rfl, rfl, hof5, (hvs.prle (hle3.trans hle4)).app (.one ⟨T, _, _, rfl, by rw [← ea]; exact hT⟩), by rw [List.append_assoc, ← hdone, spans_word hw (by (first | lia | omega))]; rfl, by rw [List.length_append]; simp only [List.length_cons, List.length_nil]; (first | lia | omega), by (first | lia | omega)⟩
      · have e1 : i = j := by (first | lia | omega)
        subst e1
        exact ⟨ns.length - (i + 1), _, _, _, _, _, by (first | lia | omega), rfl, hle3, by assumption, _, i + 1, _, _, _, _, dn, by (first | lia | omega), rfl, rfl, rfl, hof, hvs.prle hle3, by rw [← hdone, spans_blank (l := ns) (k := i) (by (first | lia | omega)) (by (first | lia | omega))], by (first | lia | omega), by (first | lia | omega)⟩
  · obtain ⟨g3, k1, k2, S3⟩ := S2.freezeW (fun b hb => by cases hb)
    refine x_end0 S3 ⟨f, vs, rfl, ⟨of, k2, hof⟩, ?_, rfl⟩
    rw [← hdone, spans_end (by (first | lia | omega)), List.append_nil]
    exact hvs.prle k1
end
section
variable {w : World} {G H g : Heap} {mg mb : Str → Option Value}
theorem kept_spec (B : Base (A0.heap_1_1 w.params) G mg mb) {o n : Addr} {old new : List Int} (ho : IntsAt g o old) (hn : IntsAt g n new) (hz : old.length ≤ 2000 ∧ new.length ≤ 2000) :
    Fn PG w (.ref 157) 14 [.ref o, .ref n] G H g [] (fun v g' W' => Ex2 fun r vs => An4 (v = .ref r) (LstAt g' r vs) (LsAre QdAt g' vs (keptW old new)) (W' = [])) := by
  refine fn_def [("old", .ref o), ("new", .ref n)] ["old", "new", "found", "spans", "at", "begin", "end", "place"] ["word_spans", "min", "len", "FARTHEST"] [some (.ref o), some (.ref n), none, none, none, none, none, none] (more := ["found", "spans", "at", "begin", "end", "place"]) B (by k_is) (by k_is) (fun s _ => BindsTo.of_eq rfl) rfl rfl (by decide +kernel) ?_
  intro A h gs dr tk os L R sc S
  (with_reducible refine OpAll.all ?_; intro _ _; refine x_cons ?_; refine x_assign ?_ (by with_unfolding_all rfl); refine List_ ?_; refine args_nil ?_)
  refine r_list (S := by assumption) ?_
  intro f h1 of hof S1
  (with_reducible refine r_store ‹_› ‹_› (by kxw_int) ?_; intro _ _; refine x_next ?_; refine x_cons ?_; refine x_assign ?_ (by with_unfolding_all rfl); refine Call_ ?_ (by with_unfolding_all rfl); refine r_glob ‹_› ‹_› ‹_› (by lks_lit) g_word_spans ?_; refine r_cwA ‹_› kp_150 ?_ (by with_unfolding_all rfl) (by with_unfolding_all rfl); refine args_cons ?_ (by with_unfolding_all rfl); refine r_loc ‹_› ‹_› (by kun_count) ?_; refine args_nil ?_; refine r_le ‹_› (by rfl) ?_)
  refine r_call (W := []) (rest := [(f, of)]) (by assumption) (.refl _) (spans_spec B ho hz.1) R (by decide) ?_
  rintro _ h2 tk2 g2 _ hle2 S2 ⟨sp, vsp, rfl, hsp, hspA, rfl⟩
  simp only [List.nil_append] at S2
  (with_reducible refine r_store ‹_› ‹_› (by kxw_int) ?_; intro _ _; refine x_next ?_; refine x_cons ?_; refine x_assign ?_ (by with_unfolding_all rfl); refine r_int ?_; refine r_store ‹_› ‹_› (by kxw_int) ?_; intro _ _; refine x_next ?_; refine x_cons ?_; refine x_for ?_ (by intro _; with_unfolding_all rfl); refine Call_ ?_ (by with_unfolding_all rfl); refine r_glob ‹_› ‹_› ‹_› (by lks_lit) g_word_spans ?_; refine r_cwA ‹_› kp_150 ?_ (by with_unfolding_all rfl) (by with_unfolding_all rfl); refine args_cons ?_ (by with_unfolding_all rfl); refine r_loc ‹_› ‹_› (by kun_count) ?_; refine args_nil ?_; refine r_le ‹_› (by rfl) ?_)
  refine r_call (W := []) (rest := [(f, of)]) (by assumption) (.refl _) (spans_spec B (hn.le hle2) hz.2) R (by decide) ?_
  rintro _ h3 tk3 g3 _ hle3 S3 ⟨sn, vsn, rfl, hsn, hsnA, rfl⟩
  simp only [List.nil_append] at S3
  have lA := hspA.length
  have lA2 := spans_few _ 0 old (Nat.le_refl _)
  have lB := hsnA.length
  have lB2 := spans_few _ 0 new (Nat.le_refl _)
  refine r_forL R S3 hsn (fun i g' vals' news' => Ex9 fun (a : Int) (j : Nat) ta bb ee pp of vs dn => An8 (a = j) (vals' = [some (.ref o), some (.ref n), some (.ref f), some (.ref sp), some (.int a ta), bb, ee, pp]) (news' = [(f, of)]) (LstO of vs) (LsAre QdAt g' vs dn) (dn ++ kept (wordsOf old (spans 0 old)) (spans 0 old) new j ((spans 0 new).drop i) = keptW old new) (dn.length ≤ i) (j ≤ 2 ^ 20)) ⟨0, 0, _, _, _, _, _, _, [], rfl, rfl, rfl, hof, .nil, rfl, Nat.le_refl _, by (first | lia | omega)⟩ ?_ ?_
  · rintro i v g4 h4 tk4 _ _ own4 hv hle4 ⟨a, j, ta, bb, ee, pp, of, vs, dn, ea, rfl, rfl, hof, hvs, hdn, hlen, hj⟩ S4
    simp only [List.cons_append, List.nil_append] at S4
    have hiv := (List.getElem?_eq_some_iff.mp hv).1
    obtain ⟨⟨b, e⟩, hq, T, tb, te, rfl, hT⟩ := hsnA.at hv
    have hnn := spans_nn _ 0 new (Nat.le_refl _) _ (List.mem_of_getElem? hq)
    have hT := hT.le hle4
    have hle : Le g g4 := hle2.trans (hle3.trans hle4)
    have ho4 := ho.le hle
    have hn4 := hn.le hle
    have hsp4 := hsp.le (hle3.trans hle4)
    have hspA4 := hspA.prle (hle3.trans hle4)
    have hd : (spans 0 new).drop i = (b, e) :: (spans 0 new).drop (i + 1) := by
      have hlt := (List.getElem?_eq_some_iff.mp hq).1
      rw [List.drop_eq_getElem_cons hlt, (List.getElem?_eq_some_iff.mp hq).2]
    rw [hd] at hdn
    dsimp only at hT hnn
    have lW : (wordsOf old (spans 0 old)).length = vsp.length := by unfold wordsOf; rw [List.length_map, lA]
    have four : ((min (wordsOf old (spans 0 old)).length (j + 4) : Nat) : Int) = min (vsp.length : Int) (a + 4) := by (first | lia | omega)
    (with_reducible refine OpAll.all ?_; intro _ _; refine r_asgT ‹_› ‹_› (by kso_lit) ?_ (by with_unfolding_all rfl) (by with_unfolding_all rfl); intro _ _ _; refine r_asgN ?_; refine r_store ‹_› ‹_› (by kxw_int) ?_; intro _ _; refine r_asgN ?_; refine r_store ‹_› ‹_› (by kxw_int) ?_; intro _ _; refine r_asg0 ?_; refine x_cons ?_; refine x_assign ?_ (by with_unfolding_all rfl); refine r_loc ‹_› ‹_› (by kun_count) ?_; refine r_store ‹_› ‹_› (by kxw_int) ?_; intro _ _; refine x_next ?_; refine x_cons ?_)
    refine x_mid (fun s' => Ex4 fun g5 h5 tk5 tp => An3 (s' = ⟨h5, gs, dr, tk5, os⟩) (Le g4 g5) (St (ent G H g []) ["old", "new", "found", "spans", "at", "begin", "end", "place"] L g5 h5 [some (.ref o), some (.ref n), some (.ref f), some (.ref sp), some (.int a ta), some (.int b tb), some (.int e te), some (.int ((srch (wordsOf old (spans 0 old)) (min (wordsOf old (spans 0 old)).length (j + 4)) (sl new b e) j : Nat) : Int) tp)] ((f, of) :: own4))) ?_ ?_
    · refine OpAll.all fun T hT => ?_
      refine x_while (S := by assumption) (fun k g' vals' news' => Ex3 fun (p' : Int) (p : Nat) tp => An6 (p' = p) (k = min (wordsOf old (spans 0 old)).length (j + 4) - p) (p ≤ 2 ^ 21) (srch (wordsOf old (spans 0 old)) (min (wordsOf old (spans 0 old)).length (j + 4)) (sl new b e) j = srch (wordsOf old (spans 0 old)) (min (wordsOf old (spans 0 old)).length (j + 4)) (sl new b e) p) (vals' = [some (.ref o), some (.ref n), some (.ref f), some (.ref sp), some (.int a ta), some (.int b tb), some (.int e te), some (.int p' tp)]) (news' = (f, of) :: own4)) _ ⟨a, j, ta, ea, rfl, by (first | lia | omega), rfl, rfl, rfl⟩ ?_
      rintro _ g5 h5 tk5 _ _ hle5 S5 ⟨p', p, tp, ep, rfl, hp20, hsr, rfl, rfl⟩
      subst ep
      have ho5 := ho4.le hle5
      have hn5 := hn4.le hle5
      have hsp5 := hsp4.le hle5
      by_cases hpl : p < vsp.length
      · obtain ⟨⟨b1, e1⟩, hq1⟩ : ∃ q, (spans 0 old)[p]? = some q := ⟨_, List.getElem?_eq_getElem (by (first | lia | omega))⟩
        obtain ⟨v1, hv1, T1, tb1, te1, rfl, hT1⟩ := hspA4.get hq1
        have hT1 := hT1.le hle5
        have hnn1 := spans_nn _ 0 old (Nat.le_refl _) _ (List.mem_of_getElem? hq1)
        have hv1 : vsp[((p : Nat) : Int).toNat]? = some (.ref T1) := hv1
        have hw1 : (wordsOf old (spans 0 old)).getD p [] = sl old b1 e1 := by
          rw [wordsOf_getD (by (first | lia | omega))]
          simp [List.getD, hq1]
        dsimp only at hT1 hnn1
        (with_reducible refine OpAll.all ?_; intro _ _; refine OpAll.all ?_; intro _ _; refine isTrue_and ?_; refine wpAny_isTrue_Compare1 ?_ (by with_unfolding_all rfl); refine r_loc ‹_› ‹_› (by kun_count) ?_; refine Call_ ?_ (by with_unfolding_all rfl); refine r_glob ‹_› ‹_› ‹_› (by lks_lit) g_min ?_; refine r_cwbA ?_ (by with_unfolding_all rfl) (by with_unfolding_all rfl); refine args_cons ?_ (by with_unfolding_all rfl); refine Call_ ?_ (by with_unfolding_all rfl); refine r_glob ‹_› ‹_› ‹_› (by lks_lit) g_len ?_; refine r_cwbA ?_ (by with_unfolding_all rfl) (by with_unfolding_all rfl); refine args_cons ?_ (by with_unfolding_all rfl); refine r_loc ‹_› ‹_› (by kun_count) ?_; refine args_nil ?_; refine r_len (by kso_lit) (by kpa_letter) ?_; refine args_cons ?_ (by with_unfolding_all rfl); refine wpAny_BinOp ?_; refine r_loc ‹_› ‹_› (by kun_count) ?_; refine r_glob ‹_› ‹_› ‹_› (by lks_lit) g_FARTHEST ?_; refine r_add ?_; refine args_nil ?_; refine r_min ‹_› ‹_› ?_; intro _ _ _ _; refine r_lt ?_; refine wpAny_truthy_bool ?_; refine if_dec ?_ ?_ <;> intro _; refine isTrue_and ?_; refine wpAny_isTrue_Compare1 ?_ (by with_unfolding_all rfl); refine Subscript_ ?_; refine r_loc ‹_› ‹_› (by kun_count) ?_; refine r_slice ?_; refine wpAny_evalPart_some ?_; refine Subscript_ ?_; refine Subscript_ ?_; refine r_loc ‹_› ‹_› (by kun_count) ?_; refine r_loc ‹_› ‹_› (by kun_count) ?_; refine' r_item ?a173x1 ?a173x2 ?a173x3 ?_ ?a173x4; (case a173x4 => with_unfolding_all rfl); (case a173x1 => kso_lit); (case a173x3 => assumption); (case a173x2 => kpa_letter); refine r_int ?_; refine' r_itemT ?a174x1 ?a174x2 ?a174x3 ?_ ?a174x4; (case a174x4 => with_unfolding_all rfl); (case a174x1 => kso_lit); (case a174x3 => with_unfolding_all rfl); (case a174x2 => kpa_letter); refine wpAny_evalPart_some ?_; refine Subscript_ ?_; refine Subscript_ ?_; refine r_loc ‹_› ‹_› (by kun_count) ?_; refine r_loc ‹_› ‹_› (by kun_count) ?_; refine' r_item ?a175x1 ?a175x2 ?a175x3 ?_ ?a175x4; (case a175x4 => with_unfolding_all rfl); (case a175x1 => kso_lit); (case a175x3 => assumption); (case a175x2 => kpa_letter); refine r_int ?_; refine' r_itemT ?a176x1 ?a176x2 ?a176x3 ?_ ?a176x4; (case a176x4 => with_unfolding_all rfl); (case a176x1 => kso_lit); (case a176x3 => with_unfolding_all rfl); (case a176x2 => kpa_letter); refine wpAny_evalPart_none ?_; refine r_slck ‹_› ?_; intro _ _ _ _ _ _; refine r_subslice ‹_› (by kso_lit) (by kso_lit) (by kma_look) (by kma_look) (by kpa_letter) ?_ (by with_unfolding_all rfl); intro _ _ _ _ _ _; refine Subscript_ ?_; refine r_loc ‹_› ‹_› (by kun_count) ?_; refine r_slice ?_; refine wpAny_evalPart_some ?_; refine r_loc ‹_› ‹_› (by kun_count) ?_; refine wpAny_evalPart_some ?_; refine r_loc ‹_› ‹_› (by kun_count) ?_; refine wpAny_evalPart_none ?_; refine r_slck ‹_› ?_; intro _ _ _ _ _ _; refine r_subslice ‹_› (by kso_lit) (by kso_lit) (by kma_look) (by kma_look) (by kpa_letter) ?_ (by with_unfolding_all rfl); intro _ _ _ _ _ _; refine r_neI ‹_› (by kso_lit) (by kso_lit) ?_; refine wpAny_truthy_bool ?_; refine if_ndec ?_ ?_ <;> intro _; refine isTrue_and_nil ?_; refine if_t ?_; refine x_cons ?_; refine x_assign ?_ (by with_unfolding_all rfl); refine wpAny_BinOp ?_; refine r_loc ‹_› ‹_› (by kun_count) ?_; refine r_int ?_; refine r_add ?_; refine r_store ‹_› ‹_› (by kxw_int) ?_; intro _ _; refine x_next ?_; refine wpAny_execs_nil ?_; refine OpQ.out ‹_› ?_; rotate_left; refine if_f ?_; refine OpQ.out ‹_› ?_; refine OpQ.out ‹_› ?_; rotate_left; refine if_f ?_; refine OpQ.out ‹_› ?_; refine OpQ.out ‹_› ?_; rotate_left)
        · refine ⟨min (wordsOf old (spans 0 old)).length (j + 4) - (p + 1), _, _, _, _, _, by (first | lia | omega), rfl, ?_, by assumption, _, p + 1, _, by (first | lia | omega), rfl, by (first | lia | omega), by rw [hsr, srch_go (by (first | lia | omega)) (by rw [hw1]; assumption)], rfl, rfl⟩
          kse_has
        · refine ⟨rfl, _, _, _, tp, rfl, ?_, by rw [hsr, srch_stop (fun _ => by rw [hw1]; assumption)]; assumption⟩
          kse_has
        · refine ⟨rfl, _, _, _, tp, rfl, ?_, by rw [hsr, srch_stop (fun hlt => absurd hlt (by (first | lia | omega)))]; assumption⟩
          kse_has
      · (with_reducible refine OpAll.all ?_; intro _ _; refine OpAll.all ?_; intro _ _; refine isTrue_and ?_; refine wpAny_isTrue_Compare1 ?_ (by with_unfolding_all rfl); refine r_loc ‹_› ‹_› (by kun_count) ?_; refine Call_ ?_ (by with_unfolding_all rfl); refine r_glob ‹_› ‹_› ‹_› (by lks_lit) g_min ?_; refine r_cwbA ?_ (by with_unfolding_all rfl) (by with_unfolding_all rfl); refine args_cons ?_ (by with_unfolding_all rfl); refine Call_ ?_ (by with_unfolding_all rfl); refine r_glob ‹_› ‹_› ‹_› (by lks_lit) g_len ?_; refine r_cwbA ?_ (by with_unfolding_all rfl) (by with_unfolding_all rfl); refine args_cons ?_ (by with_unfolding_all rfl); refine r_loc ‹_› ‹_› (by kun_count) ?_; refine args_nil ?_; refine r_len (by kso_lit) (by kpa_letter) ?_; refine args_cons ?_ (by with_unfolding_all rfl); refine wpAny_BinOp ?_; refine r_loc ‹_› ‹_› (by kun_count) ?_; refine r_glob ‹_› ‹_› ‹_› (by lks_lit) g_FARTHEST ?_; refine r_add ?_; refine args_nil ?_; refine r_min ‹_› ‹_› ?_; intro _ _ _ _; refine r_lt ?_; refine wpAny_truthy_bool ?_; refine if_dec ?_ ?_ <;> intro _; refine isTrue_and ?_; refine wpAny_isTrue_Compare1 ?_ (by with_unfolding_all rfl); refine Subscript_ ?_; refine r_loc ‹_› ‹_› (by kun_count) ?_; refine r_slice ?_; refine wpAny_evalPart_some ?_; refine Subscript_ ?_; refine Subscript_ ?_; refine r_loc ‹_› ‹_› (by kun_count) ?_; refine r_loc ‹_› ‹_› (by kun_count) ?_; rotate_left; refine if_f ?_; refine OpQ.out ‹_› ?_; refine OpQ.out ‹_› ?_; rotate_left)
        · exfalso; (first | lia | omega)
        · refine ⟨rfl, _, _, _, tp, rfl, ?_, by rw [hsr, srch_stop (fun hlt => absurd hlt (by (first | lia | omega)))]; assumption⟩
          kse_has
    · generalize hP : srch (wordsOf old (spans 0 old)) (min (wordsOf old (spans 0 old)).length (j + 4)) (sl new b e) j = P
      rintro _ ⟨g5, h5, tk5, tp, rfl, hle5, S5⟩
      have hsp5 := hsp4.le hle5
      have hdn2 : P < min (wordsOf old (spans 0 old)).length (j + 4) → dn ++ [((spans 0 old).getD P (0, 0), (b, e))] ++ kept (wordsOf old (spans 0 old)) (spans 0 old) new (P + 1) ((spans 0 new).drop (i + 1)) = keptW old new := fun hlt => by
        rw [← hdn, kept]
        simp only [hP, if_pos hlt, List.append_assoc, List.cons_append, List.nil_append]
      have hdn3 : ¬ P < min (wordsOf old (spans 0 old)).length (j + 4) → dn ++ kept (wordsOf old (spans 0 old)) (spans 0 old) new j ((spans 0 new).drop (i + 1)) = keptW old new := fun hlt => by
        rw [← hdn, kept]
        simp only [hP, if_neg hlt]
      by_cases hpl : P < vsp.length
      · obtain ⟨⟨b1, e1⟩, hq1⟩ : ∃ q, (spans 0 old)[P]? = some q := ⟨_, List.getElem?_eq_getElem (by (first | lia | omega))⟩
        obtain ⟨v1, hv1, T1, tb1, te1, rfl, hT1⟩ := hspA4.get hq1
        have hT1 := hT1.le hle5
        have hv1 : vsp[((P : Nat) : Int).toNat]? = some (.ref T1) := hv1
        have hgd : (spans 0 old).getD P (0, 0) = (b1, e1) := by simp [List.getD, hq1]
        rw [hgd] at hdn2
        dsimp only at hT1
        (with_reducible refine x_next ?_; refine x_cons ?_; refine wpAny_If ?_; refine wpAny_isTrue_Compare1 ?_ (by with_unfolding_all rfl); refine r_loc ‹_› ‹_› (by kun_count) ?_; refine Call_ ?_ (by with_unfolding_all rfl); refine r_glob ‹_› ‹_› ‹_› (by lks_lit) g_min ?_; refine r_cwbA ?_ (by with_unfolding_all rfl) (by with_unfolding_all rfl); refine args_cons ?_ (by with_unfolding_all rfl); refine Call_ ?_ (by with_unfolding_all rfl); refine r_glob ‹_› ‹_› ‹_› (by lks_lit) g_len ?_; refine r_cwbA ?_ (by with_unfolding_all rfl) (by with_unfolding_all rfl); refine args_cons ?_ (by with_unfolding_all rfl); refine r_loc ‹_› ‹_› (by kun_count) ?_; refine args_nil ?_; refine r_len (by kso_lit) (by kpa_letter) ?_; refine args_cons ?_ (by with_unfolding_all rfl); refine wpAny_BinOp ?_; refine r_loc ‹_› ‹_› (by kun_count) ?_; refine r_glob ‹_› ‹_› ‹_› (by lks_lit) g_FARTHEST ?_; refine r_add ?_; refine args_nil ?_; refine r_min ‹_› ‹_› ?_; intro _ _ _ _; refine r_lt ?_; refine wpAny_truthy_bool ?_; refine if_dec ?_ ?_ <;> intro _; refine x_cons ?_; refine x_expr ‹_› ?_ (by with_unfolding_all rfl); refine MethodCall_ ?_ (by with_unfolding_all rfl); refine r_loc ‹_› ‹_› (by kun_count) ?_; refine r_method (by kso_lit) PySem.F.slot_list_append PySem.F.type_list_append ?_; refine r_cwbB ?_ (by with_unfolding_all rfl) (by with_unfolding_all rfl); refine args_cons ?_ (by with_unfolding_all rfl); refine Tuple_ ?_; refine args_cons ?_ (by with_unfolding_all rfl); refine Subscript_ ?_; refine r_loc ‹_› ‹_› (by kun_count) ?_; refine r_loc ‹_› ‹_› (by kun_count) ?_; refine' r_item ?a177x1 ?a177x2 ?a177x3 ?_ ?a177x4; (case a177x4 => with_unfolding_all rfl); (case a177x1 => kso_lit); (case a177x3 => assumption); (case a177x2 => kpa_letter); refine args_cons ?_ (by with_unfolding_all rfl); refine Tuple_ ?_; refine args_cons ?_ (by with_unfolding_all rfl); refine r_loc ‹_› ‹_› (by kun_count) ?_; refine args_cons ?_ (by with_unfolding_all rfl); refine r_loc ‹_› ‹_› (by kun_count) ?_; refine args_nil ?_; rotate_left; refine wpAny_execs_nil ?_; refine x_next ?_; refine wpAny_execs_nil ?_; refine OpQ.out ‹_› ?_; rotate_left)
        · refine r_tupI (S := by assumption) ?_
          intro T2 h6 g6 hle6 hT2 S6
          (with_reducible refine args_nil ?_)
          refine r_tupI (S := by assumption) ?_
          intro T3 h7 g7 hle7 hT3 S7
          (with_reducible refine args_nil ?_)
          refine r_append (S := by assumption) hof (by kxw_text) (by rw [hvs.length, sizeLine_eq]; (first | lia | omega)) ?_
          intro h8 of8 hof8 S8
          (with_reducible refine x_next ?_; refine x_cons ?_; refine x_assign ?_ (by with_unfolding_all rfl); refine wpAny_BinOp ?_; refine r_loc ‹_› ‹_› (by kun_count) ?_; refine r_int ?_; refine r_add ?_; refine r_store ‹_› ‹_› (by kxw_int) ?_; intro _ _; refine x_next ?_; refine wpAny_execs_nil ?_; refine x_next ?_; refine wpAny_execs_nil ?_; refine OpQ.out ‹_› ?_)
          have hl7 : Le g4 g7 := hle5.trans (hle6.trans hle7)
          refine ⟨_, _, _, _, [(f, of8)], rfl, ?_, by assumption, _, P + 1, _, _, _, _, of8, _, dn ++ [((b1, e1), (b, e))], ?_, rfl, rfl, hof8, (hvs.qdle hl7).app (.one ⟨T3, _, _, rfl, hT3, ⟨T1, _, _, rfl, hT1.le (hle6.trans hle7)⟩, ⟨T2, _, _, rfl, hT2.le hle7⟩⟩), hdn2 (by (first | lia | omega)), ?_, by (first | lia | omega)⟩
          · kse_has
          · (first | lia | omega)
          · rw [List.length_append]; simp only [List.length_cons, List.length_nil]; (first | lia | omega)
        · refine ⟨_, _, _, _, [(f, of)], rfl, ?_, by assumption, a, j, _, _, _, _, of, vs, dn, ea, rfl, rfl, hof, hvs.qdle ?_, hdn3 (by (first | lia | omega)), by (first | lia | omega), hj⟩
          · kse_has
          · kse_has
      · (with_reducible refine x_next ?_; refine x_cons ?_; refine wpAny_If ?_; refine wpAny_isTrue_Compare1 ?_ (by with_unfolding_all rfl); refine r_loc ‹_› ‹_› (by kun_count) ?_; refine Call_ ?_ (by with_unfolding_all rfl); refine r_glob ‹_› ‹_› ‹_› (by lks_lit) g_min ?_; refine r_cwbA ?_ (by with_unfolding_all rfl) (by with_unfolding_all rfl); refine args_cons ?_ (by with_unfolding_all rfl); refine Call_ ?_ (by with_unfolding_all rfl); refine r_glob ‹_› ‹_› ‹_› (by lks_lit) g_len ?_; refine r_cwbA ?_ (by with_unfolding_all rfl) (by with_unfolding_all rfl); refine args_cons ?_ (by with_unfolding_all rfl); refine r_loc ‹_› ‹_› (by kun_count) ?_; refine args_nil ?_; refine r_len (by kso_lit) (by kpa_letter) ?_; refine args_cons ?_ (by with_unfolding_all rfl); refine wpAny_BinOp ?_; refine r_loc ‹_› ‹_› (by kun_count) ?_; refine r_glob ‹_› ‹_› ‹_› (by lks_lit) g_FARTHEST ?_; refine r_add ?_; refine args_nil ?_; refine r_min ‹_› ‹_› ?_; intro _ _ _ _; refine r_lt ?_; refine wpAny_truthy_bool ?_; refine if_dec ?_ ?_ <;> intro _; refine x_cons ?_; refine x_expr ‹_› ?_ (by with_unfolding_all rfl); refine MethodCall_ ?_ (by with_unfolding_all rfl); refine r_loc ‹_› ‹_› (by kun_count) ?_; refine r_method (by kso_lit) PySem.F.slot_list_append PySem.F.type_list_append ?_; refine r_cwbB ?_ (by with_unfolding_all rfl) (by with_unfolding_all rfl); refine args_cons ?_ (by with_unfolding_all rfl); refine Tuple_ ?_; refine args_cons ?_ (by with_unfolding_all rfl); refine Subscript_ ?_; refine r_loc ‹_› ‹_› (by kun_count) ?_; refine r_loc ‹_› ‹_› (by kun_count) ?_; rotate_left; refine wpAny_execs_nil ?_; refine x_next ?_; refine wpAny_execs_nil ?_; refine OpQ.out ‹_› ?_; rotate_left)
        · exfalso; (first | lia | omega)
        · refine ⟨_, _, _, _, [(f, of)], rfl, ?_, by assumption, a, j, _, _, _, _, of, vs, dn, ea, rfl, rfl, hof, hvs.qdle ?_, hdn3 (by (first | lia | omega)), by (first | lia | omega), hj⟩
          · kse_has
          · kse_has
  · rintro g4 h4 tk4 _ _ hle4 S4 ⟨a, j, ta, bb, ee, pp, of, vs, dn, ea, rfl, rfl, hof, hvs, hdn, hlen, hj⟩
    (with_reducible refine x_next ?_; refine x_cons ?_; refine wpAny_Return_some ?_; refine r_loc ‹_› ‹_› (by kun_count) ?_; refine x_ret ?_; refine OpQ.out ‹_› ?_)
    obtain ⟨g5, k1, k2, S5⟩ := S4.freezeW (fun b hb => by cases hb)
    refine x_end0 S5 ⟨f, vs, rfl, ⟨of, k2, hof⟩, ?_, rfl⟩
    rw [← hdn, lB, List.drop_length, kept, List.append_nil]
    exact hvs.qdle k1
end
section
variable {w : World} {G H g : Heap} {mg mb : Str → Option Value}
theorem narrowed_spec (B : Base (A0.heap_1_1 w.params) G mg mb) {o n : Addr} {old codes : List Int} {s e : Int} {t1 t2 : Tok} (ho : IntsAt g o old) (hn : IntsAt g n codes) (hz : old.length ≤ 2000 ∧ codes.length ≤ 2000) (hse : 0 ≤ s ∧ s ≤ e ∧ e ≤ old.length) :
    Fn PG w (.ref 164) 10 [.int s t1, .int e t2, .ref o, .ref n] G H g [] (fun v g' W' => Ex1 fun x => An3 (EdAt g' v x) (Nar old s e codes x) (W' = [])) := by
  refine fn_def [("start", .int s t1), ("end", .int e t2), ("old", .ref o), ("codes", .ref n)] ["start", "end", "old", "codes", "ahead", "behind"] ["len"] [some (.int s t1), some (.int e t2), some (.ref o), some (.ref n), none, none] (more := ["ahead", "behind"]) B (by k_is) (by k_is) (fun s _ => BindsTo.of_eq rfl) rfl rfl (by decide +kernel) ?_
  intro A h gs dr tk os L R sc S
  (with_reducible refine OpAll.all ?_; intro _ _; refine x_cons ?_; refine x_assign ?_ (by with_unfolding_all rfl); refine r_int ?_; refine r_store ‹_› ‹_› (by kxw_int) ?_; intro _ _; refine x_next ?_; refine x_cons ?_)
  refine x_mid (fun s' => Ex5 fun g2 h2 tk2 (k : Nat) ta => An6 (s' = ⟨h2, gs, dr, tk2, os⟩) (Le g g2) (s + k ≤ e) (k ≤ codes.length) ((∀ i : Nat, i < k → old.getD (s + i).toNat 0 = codes.getD ((i : Int)).toNat 0)) (St (ent G H g []) ["start", "end", "old", "codes", "ahead", "behind"] L g2 h2 [some (.int s t1), some (.int e t2), some (.ref o), some (.ref n), some (.int k ta), none] [])) ?_ ?_
  · refine OpAll.all fun T hT => ?_
    refine x_while (S := by assumption) (fun k' g' vals' news' => Ex3 fun (a : Int) (k : Nat) ta => An7 (a = k) (k' = codes.length - k) (s + k ≤ e) (k ≤ codes.length) ((∀ i : Nat, i < k → old.getD (s + i).toNat 0 = codes.getD ((i : Int)).toNat 0)) (vals' = [some (.int s t1), some (.int e t2), some (.ref o), some (.ref n), some (.int a ta), none]) (news' = [])) _ ⟨0, 0, _, rfl, rfl, by (first | lia | omega), by (first | lia | omega), fun i hi => absurd hi (Nat.not_lt_zero _), rfl, rfl⟩ ?_
    rintro _ g2 h2 tk2 _ _ hle2 S2 ⟨a, k, ta, ea, rfl, hk1, hk2, hi, rfl, rfl⟩
    subst ea
    have ho2 := ho.le hle2
    have hn2 := hn.le hle2
    (with_reducible refine OpAll.all ?_; intro _ _; refine OpAll.all ?_; intro _ _; refine isTrue_and ?_; refine wpAny_isTrue_Compare1 ?_ (by with_unfolding_all rfl); refine wpAny_BinOp ?_; refine r_loc ‹_› ‹_› (by kun_count) ?_; refine r_loc ‹_› ‹_› (by kun_count) ?_; refine r_add ?_; refine r_loc ‹_› ‹_› (by kun_count) ?_; refine r_lt ?_; refine wpAny_truthy_bool ?_; refine if_dec ?_ ?_ <;> intro _; refine isTrue_and ?_; refine wpAny_isTrue_Compare1 ?_ (by with_unfolding_all rfl); refine r_loc ‹_› ‹_› (by kun_count) ?_; refine Call_ ?_ (by with_unfolding_all rfl); refine r_glob ‹_› ‹_› ‹_› (by lks_lit) g_len ?_; refine r_cwbA ?_ (by with_unfolding_all rfl) (by with_unfolding_all rfl); refine args_cons ?_ (by with_unfolding_all rfl); refine r_loc ‹_› ‹_› (by kun_count) ?_; refine args_nil ?_; refine r_lenI (by kso_lit) (by kpa_letter) ?_; refine r_lt ?_; refine wpAny_truthy_bool ?_; refine if_dec ?_ ?_ <;> intro _; refine isTrue_and ?_; refine wpAny_isTrue_Compare1 ?_ (by with_unfolding_all rfl); refine Subscript_ ?_; refine r_loc ‹_› ‹_› (by kun_count) ?_; refine wpAny_BinOp ?_; refine r_loc ‹_› ‹_› (by kun_count) ?_; refine r_loc ‹_› ‹_› (by kun_count) ?_; refine r_add ?_; refine r_itemI (by kso_lit) (by kpa_letter) ?_ (by with_unfolding_all rfl); intro _; refine Subscript_ ?_; refine r_loc ‹_› ‹_› (by kun_count) ?_; refine r_loc ‹_› ‹_› (by kun_count) ?_; refine r_itemI (by kso_lit) (by kpa_letter) ?_ (by with_unfolding_all rfl); intro _; refine r_eq ?_; refine wpAny_truthy_bool ?_; refine if_dec ?_ ?_ <;> intro _; refine isTrue_and_nil ?_; refine if_t ?_; refine x_cons ?_; refine x_assign ?_ (by with_unfolding_all rfl); refine wpAny_BinOp ?_; refine r_loc ‹_› ‹_› (by kun_count) ?_; refine r_int ?_; refine r_add ?_; refine r_store ‹_› ‹_› (by kxw_int) ?_; intro _ _; refine x_next ?_; refine wpAny_execs_nil ?_; refine OpQ.out ‹_› ?_; rotate_left; refine if_f ?_; refine OpQ.out ‹_› ?_; refine OpQ.out ‹_› ?_; rotate_left; refine if_f ?_; refine OpQ.out ‹_› ?_; refine OpQ.out ‹_› ?_; rotate_left; refine if_f ?_; refine OpQ.out ‹_› ?_; refine OpQ.out ‹_› ?_; rotate_left)
    · rename_i heq _ _
      exact ⟨codes.length - (k + 1), _, _, _, _, _, by (first | lia | omega), rfl, Le.rfl, by assumption, _, k + 1, _, by (first | lia | omega), rfl, by (first | lia | omega), by (first | lia | omega), fun i hik => by
        by_cases hik2 : i < k
        · exact hi i hik2
        · rw [show i = k by (first | lia | omega)]; assumption, rfl, rfl⟩
    all_goals exact ⟨rfl, g2, _, _, k, ta, rfl, hle2, hk1, hk2, hi, S2⟩
  · rintro _ ⟨g2, h2, tk2, k, ta, rfl, hle2, hk1, hk2, hi, S2⟩
    (with_reducible refine x_next ?_; refine x_cons ?_; refine x_assign ?_ (by with_unfolding_all rfl); refine r_int ?_; refine r_store ‹_› ‹_› (by kxw_int) ?_; intro _ _; refine x_next ?_; refine x_cons ?_)
    refine x_mid (fun s' => Ex5 fun g3 h3 tk3 (m : Nat) tb => An6 (s' = ⟨h3, gs, dr, tk3, os⟩) (Le g2 g3) (s + k ≤ e - m) (k + m ≤ codes.length) ((∀ i : Nat, i < m → old.getD (e - i - 1).toNat 0 = codes.getD ((codes.length : Int) - i - 1).toNat 0)) (St (ent G H g []) ["start", "end", "old", "codes", "ahead", "behind"] L g3 h3 [some (.int s t1), some (.int e t2), some (.ref o), some (.ref n), some (.int k ta), some (.int m tb)] [])) ?_ ?_
    · refine OpAll.all fun T hT => ?_
      refine x_while (S := by assumption) (fun k' g' vals' news' => Ex3 fun (a : Int) (m : Nat) tb => An7 (a = m) (k' = codes.length - m) (s + k ≤ e - m) (k + m ≤ codes.length) ((∀ i : Nat, i < m → old.getD (e - i - 1).toNat 0 = codes.getD ((codes.length : Int) - i - 1).toNat 0)) (vals' = [some (.int s t1), some (.int e t2), some (.ref o), some (.ref n), some (.int k ta), some (.int a tb)]) (news' = [])) _ ⟨0, 0, _, rfl, rfl, by (first | lia | omega), by (first | lia | omega), fun i hi => absurd hi (Nat.not_lt_zero _), rfl, rfl⟩ ?_
      rintro _ g3 h3 tk3 _ _ hle3 S3 ⟨a, m, tb, ea, rfl, hm1, hm2, hj, rfl, rfl⟩
      subst ea
      have ho3 := ho.le (hle2.trans hle3)
      have hn3 := hn.le (hle2.trans hle3)
      (with_reducible refine OpAll.all ?_; intro _ _; refine OpAll.all ?_; intro _ _; refine isTrue_and ?_; refine wpAny_isTrue_Compare1 ?_ (by with_unfolding_all rfl); refine wpAny_BinOp ?_; refine r_loc ‹_› ‹_› (by kun_count) ?_; refine r_loc ‹_› ‹_› (by kun_count) ?_; refine r_add ?_; refine wpAny_BinOp ?_; refine r_loc ‹_› ‹_› (by kun_count) ?_; refine r_loc ‹_› ‹_› (by kun_count) ?_; refine r_sub ?_; refine r_lt ?_; refine wpAny_truthy_bool ?_; refine if_dec ?_ ?_ <;> intro _; refine isTrue_and ?_; refine wpAny_isTrue_Compare1 ?_ (by with_unfolding_all rfl); refine r_loc ‹_› ‹_› (by kun_count) ?_; refine wpAny_BinOp ?_; refine Call_ ?_ (by with_unfolding_all rfl); refine r_glob ‹_› ‹_› ‹_› (by lks_lit) g_len ?_; refine r_cwbA ?_ (by with_unfolding_all rfl) (by with_unfolding_all rfl); refine args_cons ?_ (by with_unfolding_all rfl); refine r_loc ‹_› ‹_› (by kun_count) ?_; refine args_nil ?_; refine r_lenI (by kso_lit) (by kpa_letter) ?_; refine r_loc ‹_› ‹_› (by kun_count) ?_; refine r_sub ?_; refine r_lt ?_; refine wpAny_truthy_bool ?_; refine if_dec ?_ ?_ <;> intro _; refine isTrue_and ?_; refine wpAny_isTrue_Compare1 ?_ (by with_unfolding_all rfl); refine Subscript_ ?_; refine r_loc ‹_› ‹_› (by kun_count) ?_; refine wpAny_BinOp ?_; refine wpAny_BinOp ?_; refine r_loc ‹_› ‹_› (by kun_count) ?_; refine r_loc ‹_› ‹_› (by kun_count) ?_; refine r_sub ?_; refine r_int ?_; refine r_sub ?_; refine r_itemI (by kso_lit) (by kpa_letter) ?_ (by with_unfolding_all rfl); intro _; refine Subscript_ ?_; refine r_loc ‹_› ‹_› (by kun_count) ?_; refine wpAny_BinOp ?_; refine wpAny_BinOp ?_; refine Call_ ?_ (by with_unfolding_all rfl); refine r_glob ‹_› ‹_› ‹_› (by lks_lit) g_len ?_; refine r_cwbA ?_ (by with_unfolding_all rfl) (by with_unfolding_all rfl); refine args_cons ?_ (by with_unfolding_all rfl); refine r_loc ‹_› ‹_› (by kun_count) ?_; refine args_nil ?_; refine r_lenI (by kso_lit) (by kpa_letter) ?_; refine r_loc ‹_› ‹_› (by kun_count) ?_; refine r_sub ?_; refine r_int ?_; refine r_sub ?_; refine r_itemI (by kso_lit) (by kpa_letter) ?_ (by with_unfolding_all rfl); intro _; refine r_eq ?_; refine wpAny_truthy_bool ?_; refine if_dec ?_ ?_ <;> intro _; refine isTrue_and_nil ?_; refine if_t ?_; refine x_cons ?_; refine x_assign ?_ (by with_unfolding_all rfl); refine wpAny_BinOp ?_; refine r_loc ‹_› ‹_› (by kun_count) ?_; refine r_int ?_; refine r_add ?_; refine r_store ‹_› ‹_› (by kxw_int) ?_; intro _ _; refine x_next ?_; refine wpAny_execs_nil ?_; refine OpQ.out ‹_› ?_; rotate_left; refine if_f ?_; refine OpQ.out ‹_› ?_; refine OpQ.out ‹_› ?_; rotate_left; refine if_f ?_; refine OpQ.out ‹_› ?_; refine OpQ.out ‹_› ?_; rotate_left; refine if_f ?_; refine OpQ.out ‹_› ?_; refine OpQ.out ‹_› ?_; rotate_left)
      · exact ⟨codes.length - (m + 1), _, _, _, _, _, by (first | lia | omega), rfl, Le.rfl, by assumption, _, m + 1, _, by (first | lia | omega), rfl, by (first | lia | omega), by (first | lia | omega), fun i hik => by
          by_cases hik2 : i < m
          · exact hj i hik2
          · rw [show i = m by (first | lia | omega)]; assumption, rfl, rfl⟩
      all_goals exact ⟨rfl, g3, _, _, m, tb, rfl, hle3, hm1, hm2, hj, S3⟩
    · rintro _ ⟨g3, h3, tk3, m, tb, rfl, hle3, hm1, hm2, hj, S3⟩
      have hn3 := hn.le (hle2.trans hle3)
      (with_reducible refine x_next ?_; refine x_cons ?_; refine wpAny_Return_some ?_; refine Tuple_ ?_; refine args_cons ?_ (by with_unfolding_all rfl); refine wpAny_BinOp ?_; refine r_loc ‹_› ‹_› (by kun_count) ?_; refine r_loc ‹_› ‹_› (by kun_count) ?_; refine r_add ?_; refine args_cons ?_ (by with_unfolding_all rfl); refine wpAny_BinOp ?_; refine r_loc ‹_› ‹_› (by kun_count) ?_; refine r_loc ‹_› ‹_› (by kun_count) ?_; refine r_sub ?_; refine args_cons ?_ (by with_unfolding_all rfl); refine Subscript_ ?_; refine r_loc ‹_› ‹_› (by kun_count) ?_; refine r_slice ?_; refine wpAny_evalPart_some ?_; refine r_loc ‹_› ‹_› (by kun_count) ?_; refine wpAny_evalPart_some ?_; refine wpAny_BinOp ?_; refine Call_ ?_ (by with_unfolding_all rfl); refine r_glob ‹_› ‹_› ‹_› (by lks_lit) g_len ?_; refine r_cwbA ?_ (by with_unfolding_all rfl) (by with_unfolding_all rfl); refine args_cons ?_ (by with_unfolding_all rfl); refine r_loc ‹_› ‹_› (by kun_count) ?_; refine args_nil ?_; refine r_lenI (by kso_lit) (by kpa_letter) ?_; refine r_loc ‹_› ‹_› (by kun_count) ?_; refine r_sub ?_; refine wpAny_evalPart_none ?_; refine r_slck ‹_› ?_; intro _ _ _ _ _ _; refine r_subslice ‹_› (by kso_lit) (by kso_lit) (by kma_look) (by kma_look) (by kpa_letter) ?_ (by with_unfolding_all rfl); intro _ _ _ _ _ _; refine args_nil ?_)
      refine r_tupI (S := by assumption) ?_
      intro T h4 g4 hle4 hT S4
      (with_reducible refine x_ret ?_; refine OpQ.out ‹_› ?_)
      refine x_end0 S4 ⟨⟨s + k, e - m, _⟩, ⟨T, _, _, _, rfl, hT, by kun_lit⟩, ⟨⟨by dsimp only; (first | lia | omega), by dsimp only; (first | lia | omega), by dsimp only; (first | lia | omega)⟩, by dsimp only; (first | lia | omega), ?_, fun i hi' => hi i (by dsimp only at hi'; (first | lia | omega)), fun i hi' => hj i (by dsimp only at hi'; (first | lia | omega))⟩, rfl⟩
      rw [show s + (k : Int) - s = k by (first | lia | omega), show (codes.length : Int) - (e - (e - m)) = codes.length - m by (first | lia | omega)]
end
section
variable {w : World} {G H g : Heap} {mg mb : Str → Option Value}
theorem edits_spec (B : Base (A0.heap_1_1 w.params) G mg mb) {o n : Addr} {old new : List Int} (ho : IntsAt g o old) (hn : IntsAt g n new) (hz : old.length ≤ 2000 ∧ new.length ≤ 2000) (hch : Chn old.length 0 (segs old new)) (hfew : (keptW old new).length ≤ 2000) :
    Fn PG w (.ref 171) 18 [.ref o, .ref n] G H g [] (fun v g' W' => Ex3 fun r vs E => An5 (v = .ref r) (LstAt g' r vs) (LsAre EdAt g' vs E) (EdR old new 0 0 (segs old new) E) (W' = [])) := by
  refine fn_def [("old", .ref o), ("new", .ref n)] ["old", "new", "found", "at", "place", "begin", "end", "first", "last"] ["kept_words", "len", "narrowed"] [some (.ref o), some (.ref n), none, none, none, none, none, none, none] (more := ["found", "at", "place", "begin", "end", "first", "last"]) B (by k_is) (by k_is) (fun s _ => BindsTo.of_eq rfl) rfl rfl (by decide +kernel) ?_
  intro A h gs dr tk os L R sc S
  (with_reducible refine OpAll.all ?_; intro _ _; refine x_cons ?_; refine x_assign ?_ (by with_unfolding_all rfl); refine List_ ?_; refine args_nil ?_)
  refine r_list (S := by assumption) ?_
  intro f h1 of hof S1
  (with_reducible refine r_store ‹_› ‹_› (by kxw_int) ?_; intro _ _; refine x_next ?_; refine x_cons ?_; refine x_assign ?_ (by with_unfolding_all rfl); refine r_int ?_; refine r_store ‹_› ‹_› (by kxw_int) ?_; intro _ _; refine x_next ?_; refine x_cons ?_; refine x_assign ?_ (by with_unfolding_all rfl); refine r_int ?_; refine r_store ‹_› ‹_› (by kxw_int) ?_; intro _ _; refine x_next ?_; refine x_cons ?_; refine x_for ?_ (by intro _; with_unfolding_all rfl); refine wpAny_BinOp ?_; refine Call_ ?_ (by with_unfolding_all rfl); refine r_glob ‹_› ‹_› ‹_› (by lks_lit) g_kept_words ?_; refine r_cwA ‹_› kp_157 ?_ (by with_unfolding_all rfl) (by with_unfolding_all rfl); refine args_cons ?_ (by with_unfolding_all rfl); refine r_loc ‹_› ‹_› (by kun_count) ?_; refine args_cons ?_ (by with_unfolding_all rfl); refine r_loc ‹_› ‹_› (by kun_count) ?_; refine args_nil ?_; refine r_le ‹_› (by rfl) ?_)
  refine r_call (W := []) (rest := [(f, of)]) (by assumption) (.refl _) (kept_spec B ho hn hz) R (by decide) ?_
  rintro _ h2 tk2 g2 _ hle2 S2 ⟨rk, vk, rfl, hrk, hkA, rfl⟩
  simp only [List.nil_append] at S2
  have ho2 := ho.le hle2
  have hn2 := hn.le hle2
  (with_reducible refine List_ ?_; refine args_cons ?_ (by with_unfolding_all rfl); refine Tuple_ ?_; refine args_cons ?_ (by with_unfolding_all rfl); refine Tuple_ ?_; refine args_cons ?_ (by with_unfolding_all rfl); refine Call_ ?_ (by with_unfolding_all rfl); refine r_glob ‹_› ‹_› ‹_› (by lks_lit) g_len ?_; refine r_cwbA ?_ (by with_unfolding_all rfl) (by with_unfolding_all rfl); refine args_cons ?_ (by with_unfolding_all rfl); refine r_loc ‹_› ‹_› (by kun_count) ?_; refine args_nil ?_; refine r_lenI (by kso_lit) (by kpa_letter) ?_; refine args_cons ?_ (by with_unfolding_all rfl); refine Call_ ?_ (by with_unfolding_all rfl); refine r_glob ‹_› ‹_› ‹_› (by lks_lit) g_len ?_; refine r_cwbA ?_ (by with_unfolding_all rfl) (by with_unfolding_all rfl); refine args_cons ?_ (by with_unfolding_all rfl); refine r_loc ‹_› ‹_› (by kun_count) ?_; refine args_nil ?_; refine r_lenI (by kso_lit) (by kpa_letter) ?_; refine args_nil ?_)
  refine r_tupI (S := by assumption) ?_
  intro T1 h3 g3 hle3 hT1 S3
  have hn3 := hn2.le hle3
  (with_reducible refine args_cons ?_ (by with_unfolding_all rfl); refine Tuple_ ?_; refine args_cons ?_ (by with_unfolding_all rfl); refine Call_ ?_ (by with_unfolding_all rfl); refine r_glob ‹_› ‹_› ‹_› (by lks_lit) g_len ?_; refine r_cwbA ?_ (by with_unfolding_all rfl) (by with_unfolding_all rfl); refine args_cons ?_ (by with_unfolding_all rfl); refine r_loc ‹_› ‹_› (by kun_count) ?_; refine args_nil ?_; refine r_lenI (by kso_lit) (by kpa_letter) ?_; refine args_cons ?_ (by with_unfolding_all rfl); refine Call_ ?_ (by with_unfolding_all rfl); refine r_glob ‹_› ‹_› ‹_› (by lks_lit) g_len ?_; refine r_cwbA ?_ (by with_unfolding_all rfl) (by with_unfolding_all rfl); refine args_cons ?_ (by with_unfolding_all rfl); refine r_loc ‹_› ‹_› (by kun_count) ?_; refine args_nil ?_; refine r_lenI (by kso_lit) (by kpa_letter) ?_; refine args_nil ?_)
  refine r_tupI (S := by assumption) ?_
  intro T2 h4 g4 hle4 hT2 S4
  (with_reducible refine args_nil ?_)
  refine r_tupI (S := by assumption) ?_
  intro T3 h5 g5 hle5 hT3 S5
  (with_reducible refine args_nil ?_)
  refine r_listI (S := by assumption) ?_
  intro r6 h6 g6 hle6 hr6 S6
  skip
  have hle : Le g2 g6 := hle3.trans (hle4.trans (hle5.trans hle6))
  have hkl := hkA.length
  refine r_addLm (S := by assumption) (hrk.le (hle.trans S6.le)) (hr6.le S6.le) (by rw [hkl]; simp only [List.length_cons, List.length_nil]; (first | lia | omega)) ?_
  intro r7 h7 g7 hle7 hr7 S7
  replace hle := hle.trans hle7
  have hsA : LsAre QdAt g7 (vk ++ [.ref T3]) (segs old new) := (hkA.qdle hle).app (.one ⟨T3, _, _, rfl, hT3.le (hle6.trans hle7), ⟨T1, _, _, rfl, hT1.le (hle4.trans (hle5.trans (hle6.trans hle7)))⟩, ⟨T2, _, _, rfl, hT2.le (hle5.trans (hle6.trans hle7))⟩⟩)
  have hlS : (segs old new).length ≤ 2001 := by unfold segs; rw [List.length_append]; simp only [List.length_cons, List.length_nil]; (first | lia | omega)
  refine r_forL R S7 hr7 (fun i g' vals' news' => Ex11 fun a p ta tp b1 b2 b3 b4 of vs E => An9 (vals' = [some (.ref o), some (.ref n), some (.ref f), some (.int a ta), some (.int p tp), b1, b2, b3, b4]) (news' = [(f, of)]) (LstO of vs) (LsAre EdAt g' vs E) ((∀ E', EdR old new a p ((segs old new).drop i) E' → EdR old new 0 0 (segs old new) (E ++ E'))) (Chn old.length a ((segs old new).drop i)) (0 ≤ a) (0 ≤ p) (E.length ≤ i)) ⟨0, 0, _, _, _, _, _, _, _, _, [], rfl, rfl, hof, .nil, fun E' h => h, hch, by (first | lia | omega), by (first | lia | omega), Nat.le_refl _⟩ ?_ ?_
  · rintro i v g8 h8 tk8 _ _ own8 hv hle8 ⟨a, p, ta, tp, b1, b2, b3, b4, of, vs, E, rfl, rfl, hof, hvs, hE, hc, ha0, hp0, hlen⟩ S8
    simp only [List.cons_append, List.nil_append] at S8
    have hiv := (List.getElem?_eq_some_iff.mp hv).1
    rw [hsA.length] at hiv
    obtain ⟨⟨⟨b, e⟩, ⟨fi, la⟩⟩, hq, T, u1, u2, rfl, hT, ⟨U1, v1, v2, rfl, hU1⟩, ⟨U2, v3, v4, rfl, hU2⟩⟩ := hsA.at hv
    have hT := hT.le hle8
    have hU1 := hU1.le hle8
    have hU2 := hU2.le hle8
    replace hle := hle.trans hle8
    have ho8 := ho2.le hle
    have hn8 := hn2.le hle
    have hd : (segs old new).drop i = ((b, e), (fi, la)) :: (segs old new).drop (i + 1) := by
      rw [List.drop_eq_getElem_cons hiv, (List.getElem?_eq_some_iff.mp hq).2]
    rw [hd] at hE hc
    obtain ⟨c1, c2, c3, c4, c5, hc⟩ := hc
    dsimp only at hT hU1 hU2 c1 c2 c3 c4 c5 hc
    (with_reducible refine OpAll.all ?_; intro _ _; refine r_asgT ‹_› ‹_› (by kso_lit) ?_ (by with_unfolding_all rfl) (by with_unfolding_all rfl); intro _ _ _; refine r_asgU ?_; refine r_asgT ‹_› ‹_› (by kso_lit) ?_ (by with_unfolding_all rfl) (by with_unfolding_all rfl); intro _ _ _; refine r_asgN ?_; refine r_store ‹_› ‹_› (by kxw_int) ?_; intro _ _; refine r_asgN ?_; refine r_store ‹_› ‹_› (by kxw_int) ?_; intro _ _; refine r_asg0 ?_; refine r_asgU ?_; refine r_asgT ‹_› ‹_› (by kso_lit) ?_ (by with_unfolding_all rfl) (by with_unfolding_all rfl); intro _ _ _; refine r_asgN ?_; refine r_store ‹_› ‹_› (by kxw_int) ?_; intro _ _; refine r_asgN ?_; refine r_store ‹_› ‹_› (by kxw_int) ?_; intro _ _; refine r_asg0 ?_; refine r_asg0 ?_; refine x_cons ?_; refine wpAny_If ?_; refine wpAny_isTrue_Compare1 ?_ (by with_unfolding_all rfl); refine Subscript_ ?_; refine r_loc ‹_› ‹_› (by kun_count) ?_; refine r_slice ?_; refine wpAny_evalPart_some ?_; refine r_loc ‹_› ‹_› (by kun_count) ?_; refine wpAny_evalPart_some ?_; refine r_loc ‹_› ‹_› (by kun_count) ?_; refine wpAny_evalPart_none ?_; refine r_slck ‹_› ?_; intro _ _ _ _ _ _; refine r_subslice ‹_› (by kso_lit) (by kso_lit) (by kma_look) (by kma_look) (by kpa_letter) ?_ (by with_unfolding_all rfl); intro _ _ _ _ _ _; refine Subscript_ ?_; refine r_loc ‹_› ‹_› (by kun_count) ?_; refine r_slice ?_; refine wpAny_evalPart_some ?_; refine r_loc ‹_› ‹_› (by kun_count) ?_; refine wpAny_evalPart_some ?_; refine r_loc ‹_› ‹_› (by kun_count) ?_; refine wpAny_evalPart_none ?_; refine r_slck ‹_› ?_; intro _ _ _ _ _ _; refine r_subslice ‹_› (by kso_lit) (by kso_lit) (by kma_look) (by kma_look) (by kpa_letter) ?_ (by with_unfolding_all rfl); intro _ _ _ _ _ _; refine r_neI ‹_› (by kso_lit) (by kso_lit) ?_; refine wpAny_truthy_bool ?_; refine if_ndec ?_ ?_ <;> intro _; refine x_cons ?_; refine x_expr ‹_› ?_ (by with_unfolding_all rfl); refine MethodCall_ ?_ (by with_unfolding_all rfl); refine r_loc ‹_› ‹_› (by kun_count) ?_; refine r_method (by kso_lit) PySem.F.slot_list_append PySem.F.type_list_append ?_; refine r_cwbB ?_ (by with_unfolding_all rfl) (by with_unfolding_all rfl); refine args_cons ?_ (by with_unfolding_all rfl); refine Call_ ?_ (by with_unfolding_all rfl); refine r_glob ‹_› ‹_› ‹_› (by lks_lit) g_narrowed ?_; refine r_cwA ‹_› kp_164 ?_ (by with_unfolding_all rfl) (by with_unfolding_all rfl); refine args_cons ?_ (by with_unfolding_all rfl); refine r_loc ‹_› ‹_› (by kun_count) ?_; refine args_cons ?_ (by with_unfolding_all rfl); refine r_loc ‹_› ‹_› (by kun_count) ?_; refine args_cons ?_ (by with_unfolding_all rfl); refine r_loc ‹_› ‹_› (by kun_count) ?_; refine args_cons ?_ (by with_unfolding_all rfl); refine Subscript_ ?_; refine r_loc ‹_› ‹_› (by kun_count) ?_; refine r_slice ?_; refine wpAny_evalPart_some ?_; refine r_loc ‹_› ‹_› (by kun_count) ?_; refine wpAny_evalPart_some ?_; refine r_loc ‹_› ‹_› (by kun_count) ?_; refine wpAny_evalPart_none ?_; refine r_slck ‹_› ?_; intro _ _ _ _ _ _; refine r_subslice ‹_› (by kso_lit) (by kso_lit) (by kma_look) (by kma_look) (by kpa_letter) ?_ (by with_unfolding_all rfl); intro _ _ _ _ _ _; refine args_nil ?_; refine r_le ‹_› (by rfl) ?_; rotate_left; refine wpAny_execs_nil ?_; refine x_next ?_; refine x_cons ?_; refine x_assign ?_ (by with_unfolding_all rfl); refine r_loc ‹_› ‹_› (by kun_count) ?_; refine r_store ‹_› ‹_› (by kxw_int) ?_; intro _ _; refine x_next ?_; refine x_cons ?_; refine x_assign ?_ (by with_unfolding_all rfl); refine r_loc ‹_› ‹_› (by kun_count) ?_; refine r_store ‹_› ‹_› (by kxw_int) ?_; intro _ _; refine x_next ?_; refine wpAny_execs_nil ?_; refine OpQ.out ‹_› ?_; rotate_left)
    · have hne : ¬ sl old a b = sl new p fi := by assumption
      refine r_call (W := []) (rest := (f, of) :: own8) (by assumption) (.refl _) (narrowed_spec B (codes := sl new p fi) (old := old) ?_ ?_ ⟨hz.1, Nat.le_trans (sl_le ..) hz.2⟩ ⟨ha0, c1, by (first | lia | omega)⟩) R ?_ ?_
      · kun_lit
      · kun_lit
      · decide
      rintro v9 h9 tk9 g9 _ hle9 S9 ⟨x, hx, hnar, rfl⟩
      simp only [List.nil_append] at S9
      (with_reducible refine args_nil ?_)
      refine r_append (S := by assumption) hof (by kxw_text) (by rw [hvs.length, sizeLine_eq]; (first | lia | omega)) ?_
      intro h10 of10 hof10 S10
      (with_reducible refine x_next ?_; refine wpAny_execs_nil ?_; refine x_next ?_; refine x_cons ?_; refine x_assign ?_ (by with_unfolding_all rfl); refine r_loc ‹_› ‹_› (by kun_count) ?_; refine r_store ‹_› ‹_› (by kxw_int) ?_; intro _ _; refine x_next ?_; refine x_cons ?_; refine x_assign ?_ (by with_unfolding_all rfl); refine r_loc ‹_› ‹_› (by kun_count) ?_; refine r_store ‹_› ‹_› (by kxw_int) ?_; intro _ _; refine x_next ?_; refine wpAny_execs_nil ?_; refine OpQ.out ‹_› ?_)
      have hl9 : Le g8 g9 := by kse_has
      refine ⟨g9, _, _, _, [(f, of10)], rfl, hl9, by assumption, e, la, _, _, _, _, _, _, of10, _, E ++ [x], rfl, rfl, hof10, (hvs.edle hl9).app (.one hx), fun E' hE' => ?_, hc, by (first | lia | omega), by (first | lia | omega), ?_⟩
      · rw [List.append_assoc]
        exact hE _ (.edit hne hnar hE')
      · rw [List.length_append]; simp only [List.length_cons, List.length_nil]; (first | lia | omega)
    · have heq : sl old a b = sl new p fi := by assumption
      refine ⟨_, _, _, _, [(f, of)], rfl, ?_, by assumption, e, la, _, _, _, _, _, _, of, _, E, rfl, rfl, hof, hvs.edle ?_, fun E' hE' => hE _ (.same heq hE'), hc, by (first | lia | omega), by (first | lia | omega), by (first | lia | omega)⟩
      · kse_has
      · kse_has
  · rintro g8 h8 tk8 _ _ hle8 S8 ⟨a, p, ta, tp, b1, b2, b3, b4, of, vs, E, rfl, rfl, hof, hvs, hE, hc, ha0, hp0, hlen⟩
    (with_reducible refine x_next ?_; refine x_cons ?_; refine wpAny_Return_some ?_; refine r_loc ‹_› ‹_› (by kun_count) ?_; refine x_ret ?_; refine OpQ.out ‹_› ?_)
    obtain ⟨g9, k1, k2, S9⟩ := S8.freezeW (fun b hb => by cases hb)
    refine x_end0 S9 ⟨f, vs, E, rfl, ⟨of, k2, hof⟩, hvs.edle k1, ?_, rfl⟩
    rw [hsA.length, List.drop_length] at hE
    simpa using hE [] .nil
end
section
variable {w : World} {G H g : Heap} {mg mb : Str → Option Value}
theorem Okay.drop {s : Int} {txt ps : List Int} : ∀ {A B : List Edit}, Okay s txt ps (A ++ B) → Okay s txt ps B
  | [], _, h => h
  | _ :: _, _, h => Okay.drop h.1
theorem MkTab.map (l : List Mk) (f : Mk → Int) : MkTab (l.map fun m => m.to (f m)) = MkTab l := by unfold MkTab; rw [List.map_map]; rfl
theorem Mk.nums (l : List Mk) (f : Mk → Int) : (l.map fun m => m.to (f m)).map (·.num) = l.map (·.num) := by rw [List.map_map]; rfl
theorem EdR.length {old new : List Int} {a p : Int} {r : List Qd} {E : List Edit} (h : EdR old new a p r E) : E.length ≤ r.length := by
  induction h with
  | nil => exact Nat.le_refl _
  | same _ _ ih => exact Nat.le_succ_of_le ih
  | edit _ _ _ ih => exact Nat.succ_le_succ ih
theorem mks0 {P : Params} {b : Addr} {l : List Mk} {marks : List (Addr × Obj)} {s : Int} (h : MksO P b l marks) : MksO P b (l.map fun m => m.to (appP s [] m.pos)) marks := by
  have e : (l.map fun m => m.to (appP s [] m.pos)) = l := mkmap_id fun m _ => rfl
  rw [e]; exact h
theorem puttext_spec (B : Base (A0.heap_1_1 w.params) G mg mb) {b bd t td ms msd rw ls c n : Addr} {ob ot oc orw : Obj} {txt new : List Int} {l : List Mk} {marks : List (Addr × Obj)} {p s e : Int} {t1 t2 : Tok}
    (bg : BufG w.params g b bd t td ms msd rw ls) (bo : BufO w.params ob t ms ls p (txt.length + 1)) (tx : TxtO w.params ot oc c txt) (dc : DctO PG w rw orw (MkTab l)) (asc : (l.map (·.num)).Pairwise (· < ·)) (few : l.length < 64) (mi : ∀ m ∈ l, Inst g m.x 342 m.dx) (mo : MksO w.params b l marks)
    (hn : IntsAt g n new) (hz : txt.length ≤ 2000 ∧ new.length ≤ 2000) (hse : 1 ≤ s ∧ s ≤ e ∧ e ≤ txt.length + 1)
    (hch : Chn (sl txt (s - 1) (e - 1)).length 0 (segs (sl txt (s - 1) (e - 1)) new)) (hfew : (keptW (sl txt (s - 1) (e - 1)) new).length ≤ 2000)
    (hE : ∀ E, EdR (sl txt (s - 1) (e - 1)) new 0 0 (segs (sl txt (s - 1) (e - 1)) new) E → Okay s txt (l.map (·.pos)) E) :
    Fn PG w (.ref 178) 30 [.ref b, .int s t1, .int e t2, .ref n] G H g ((bd, ob) :: (td, ot) :: (c, oc) :: (rw, orw) :: marks) (fun v _ W' => Ex6 fun E ob' ot' oc' marks' p' => An7 (EdR (sl txt (s - 1) (e - 1)) new 0 0 (segs (sl txt (s - 1) (e - 1)) new) E) (v = .bool (decide (0 < (E.length : Int)))) (W' = (bd, ob') :: (td, ot') :: (c, oc') :: (rw, orw) :: marks') (BufO w.params ob' t ms ls p' ((appT s txt E).length + 1)) (TxtO w.params ot' oc' c (appT s txt E)) (MksO w.params b (l.map fun m => m.to (appP s E m.pos)) marks') ((Okay s txt [p] E → p' = appP s E p))) := by
  refine fn_def [("buffer", .ref b), ("start", .int s t1), ("end", .int e t2), ("codes", .ref n)] ["buffer", "start", "end", "codes", "edits", "first", "last", "own"] ["edits_between", "replace", "len"] [some (.ref b), some (.int s t1), some (.int e t2), some (.ref n), none, none, none, none] (more := ["edits", "first", "last", "own"]) B (by k_is) (by k_is) (fun s _ => BindsTo.of_eq rfl) rfl rfl (by decide +kernel) ?_
  intro A h gs dr tk os L R sc S
  obtain ⟨bi, ti, mmi, ma, la⟩ := id bg
  obtain ⟨_, _, _, _, _, _, _, _, _, _, _, _, hba⟩ := id bo
  obtain ⟨cells, ga, ge, hgo, hgt, hgl⟩ := id tx
  (with_reducible refine OpAll.all ?_; intro _ _; refine x_cons ?_; refine x_assign ?_ (by with_unfolding_all rfl); refine Call_ ?_ (by with_unfolding_all rfl); refine r_glob ‹_› ‹_› ‹_› (by lks_lit) g_edits_between ?_; refine r_cwA ‹_› kp_171 ?_ (by with_unfolding_all rfl) (by with_unfolding_all rfl); refine args_cons ?_ (by with_unfolding_all rfl); refine MethodCall_ ?_ (by with_unfolding_all rfl); refine r_loc ‹_› ‹_› (by kun_count) ?_; refine' r_meth ?a178x1 ?a178x2 ?a178x3 ?a178x4 ?a178x5 ?a178x6 ?_; (case a178x1 => assumption); (case a178x2 => assumption); (case a178x4 => kso_lit); (case a178x3 => exact co_Buffer); (case a178x5 => kso_lit); (case a178x6 => exact me_Buffer_codes); refine r_cwB ‹_› kp_478 ?_ (by with_unfolding_all rfl) (by with_unfolding_all rfl); refine args_cons ?_ (by with_unfolding_all rfl); refine r_loc ‹_› ‹_› (by kun_count) ?_; refine args_cons ?_ (by with_unfolding_all rfl); refine r_loc ‹_› ‹_› (by kun_count) ?_; refine args_nil ?_; refine r_le ‹_› (by rfl) ?_)
  refine r_callL (W := [(bd, ob), (td, ot), (c, oc)]) (rest := (rw, orw) :: marks) S (bcodes_spec B bg bo hgo (x := s) (y := e) (by rw [hgt]; (first | lia | omega))) R (by decide) ?_
  rintro _ h1 tk1 g1 _ hle1 S1 ⟨rfl, r1, rfl, hr1⟩
  rw [hgt] at hr1
  simp only [List.cons_append, List.nil_append] at S1
  have hn1 := hn.le hle1
  (with_reducible refine args_cons ?_ (by with_unfolding_all rfl); refine r_loc ‹_› ‹_› (by kun_count) ?_; refine args_nil ?_; refine r_le ‹_› (by rfl) ?_)
  refine r_call (W := []) (rest := (bd, ob) :: (td, ot) :: (c, oc) :: (rw, orw) :: marks) S1 (.refl _) (edits_spec B hr1 hn1 ⟨Nat.le_trans (sl_le ..) hz.1, hz.2⟩ hch hfew) R (by decide) ?_
  rintro _ h2 tk2 g2 _ hle2 S2 ⟨r2, vs, E, rfl, hr2, hvs, hR, rfl⟩
  simp only [List.nil_append] at S2
  have hOk := hE E hR
  (with_reducible refine r_store ‹_› ‹_› (by kxw_int) ?_; intro _ _; refine x_next ?_; refine x_cons ?_; refine x_for ?_ (by intro _; with_unfolding_all rfl); refine Subscript_ ?_; refine r_loc ‹_› ‹_› (by kun_count) ?_; refine r_slice ?_; refine wpAny_evalPart_none ?_; refine wpAny_evalPart_none ?_; refine wpAny_evalPart_some ?_; refine wpAny_UnaryOp ?_; refine r_int ?_; refine r_neg ?_; refine r_slck ‹_› ?_; intro _ _ _ _ _ _)
  have hlv := hvs.length
  have hlE := hR.length
  have hlS : (segs (sl txt (s - 1) (e - 1)) new).length ≤ 2001 := by unfold segs; rw [List.length_append]; simp only [List.length_cons, List.length_nil]; (first | lia | omega)
  refine' r_rev (vs := vs) ?a1 ?a2 ?a3 ?a4 ?kk ?a5
  case a1 => assumption
  case a2 => kso_lit
  case a3 => kso_lit
  case a4 => (first | lia | omega)
  case a5 => with_unfolding_all rfl
  intro r3 h3 g3 hle3 hr3 S3
  have hl3 : Le g2 g3 := by kse_has
  have hvr := (hvs.edle hl3).rev
  refine r_forL R S3 hr3 (fun i g' vals' news' => Ex9 fun B ob' ot' oc' marks' p' q1 q2 q3 => An8 ((Ex1 fun A => E = A ++ B)) (B.length = i) (vals' = [some (.ref b), some (.int s t1), some (.int e t2), some (.ref n), some (.ref r2), q1, q2, q3]) (news' = (bd, ob') :: (td, ot') :: (c, oc') :: (rw, orw) :: marks') (BufO w.params ob' t ms ls p' ((appT s txt B).length + 1)) (TxtO w.params ot' oc' c (appT s txt B)) (MksO w.params b (l.map fun m => m.to (appP s B m.pos)) marks') ((Okay s txt [p] B → p' = appP s B p))) ⟨[], ob, ot, oc, marks, p, _, _, _, ⟨E, by simp⟩, rfl, rfl, rfl, bo, tx, mks0 mo, fun _ => rfl⟩ ?_ ?_
  · rintro i v g8 h8 tk8 _ _ own8 hv hle8 ⟨B1, ob8, ot8, oc8, marks8, p8, q1, q2, q3, ⟨A1, hEA⟩, rfl, rfl, rfl, bo8, tx8, mo8, hp8⟩ S8
    obtain ⟨x, hx, T, u1, u2, r4, rfl, hT, ho4⟩ := hvr.at hv
    obtain ⟨A2, rfl⟩ : ∃ A2, A1 = A2 ++ [x] := by
      rw [hEA, List.reverse_append, List.getElem?_append_right (by rw [List.length_reverse]; exact Nat.le_refl _), List.length_reverse, Nat.sub_self] at hx
      cases hA : A1.reverse with
      | nil => rw [hA] at hx; cases hx
      | cons y r =>
        rw [hA] at hx
        simp at hx
        subst hx
        exact ⟨r.reverse, by rw [← List.reverse_reverse A1, hA, List.reverse_cons]⟩
    have hEA2 : E = A2 ++ x :: B1 := by rw [hEA, List.append_assoc]; rfl
    have hok : Okay s txt (l.map (·.pos)) (x :: B1) := Okay.drop (A := A2) (by rw [← hEA2]; exact hOk)
    obtain ⟨k0, k1, k2, k3, k4, k5, k6⟩ := hok
    have hT := hT.le hle8
    have hle : Le g g8 := hle1.trans (hle2.trans (hl3.trans hle8))
    (with_reducible refine OpAll.all ?_; intro _ _; refine r_asgT ‹_› ‹_› (by kso_lit) ?_ (by with_unfolding_all rfl) (by with_unfolding_all rfl); intro _ _ _; refine r_asgN ?_; refine r_store ‹_› ‹_› (by kxw_int) ?_; intro _ _; refine r_asgN ?_; refine r_store ‹_› ‹_› (by kxw_int) ?_; intro _ _; refine r_asgN ?_; refine r_store ‹_› ‹_› (by kxw_int) ?_; intro _ _; refine r_asg0 ?_; refine x_cons ?_; refine x_expr ‹_› ?_ (by with_unfolding_all rfl); refine Call_ ?_ (by with_unfolding_all rfl); refine r_glob ‹_› ‹_› ‹_› (by lks_lit) g_replace ?_; refine r_cwA ‹_› kp_142 ?_ (by with_unfolding_all rfl) (by with_unfolding_all rfl); refine args_cons ?_ (by with_unfolding_all rfl); refine r_loc ‹_› ‹_› (by kun_count) ?_; refine args_cons ?_ (by with_unfolding_all rfl); refine wpAny_BinOp ?_; refine r_loc ‹_› ‹_› (by kun_count) ?_; refine r_loc ‹_› ‹_› (by kun_count) ?_; refine r_add ?_; refine args_cons ?_ (by with_unfolding_all rfl); refine wpAny_BinOp ?_; refine r_loc ‹_› ‹_› (by kun_count) ?_; refine r_loc ‹_› ‹_› (by kun_count) ?_; refine r_add ?_; refine args_cons ?_ (by with_unfolding_all rfl); refine r_loc ‹_› ‹_› (by kun_count) ?_; refine args_nil ?_; refine r_le ‹_› (by rfl) ?_)
    have hy : EdH w.params w g8 b bd t td ms msd rw ls c ob8 ot8 oc8 orw p8 ((appT s txt B1).length + 1) (appT s txt B1) (l.map fun m => m.to (appP s B1 m.pos)) marks8 (s + x.f) (s + x.l) :=
      ⟨bg.le hle, bo8, tx8, by rw [MkTab.map]; exact dc, by rw [Mk.nums]; exact asc, by rw [List.length_map]; exact few, fun m hm => by
        obtain ⟨m', hm', rfl⟩ := List.mem_map.mp hm
        exact (mi m' hm').le hle, mo8, fun m hm => by
        obtain ⟨m', hm', rfl⟩ := List.mem_map.mp hm
        exact k4 _ (List.mem_map_of_mem hm'), rfl, ⟨k1, by (first | lia | omega), k3, k6⟩⟩
    refine r_callL (W := (bd, ob8) :: (td, ot8) :: (c, oc8) :: (rw, orw) :: marks8) (rest := own8) (by assumption) (replace_spec B hy (ho4.le hle8) k5) R (by decide) ?_
    rintro v9 h9 tk9 g9 _ hle9 S9 ⟨ob9, ot9, oc9, marks9, p9, rfl, bo9, hp9, tx9, mo9⟩
    (with_reducible refine x_next ?_; refine wpAny_execs_nil ?_; refine OpQ.out ‹_› ?_)
    have hrl := rep_length (t := appT s txt B1) (ns := x.own) (x := s + x.f) (y := s + x.l) ⟨k1, by (first | lia | omega), k3⟩
    refine ⟨g9, _, _, _, (bd, ob9) :: (td, ot9) :: (c, oc9) :: (rw, orw) :: marks9, rfl, hle9, S9, x :: B1, ob9, ot9, oc9, marks9, p9, _, _, _, ⟨A2, hEA2⟩, rfl, rfl, rfl, ?_, tx9, ?_, fun hq => ?_⟩
    · rw [appT_cons, hrl, show ((appT s txt B1).length : Int) + x.own.length - (s + x.l - (s + x.f)) + 1 = (appT s txt B1).length + 1 + x.own.length - (s + x.l - (s + x.f)) by (first | lia | omega)]
      exact bo9
    · rw [List.map_map] at mo9
      exact mo9
    · have h1 := hp8 hq.1
      rw [appP_cons, ← h1]
      exact hp9 rfl (by rw [h1]; exact hq.2.2.2.2.1 p (.head _))
  · rintro g8 h8 tk8 _ _ hle8 S8 ⟨B1, ob8, ot8, oc8, marks8, p8, q1, q2, q3, ⟨A1, hEA⟩, hB, rfl, rfl, bo8, tx8, mo8, hp8⟩
    have hB1 : B1 = E := by
      have h1 : A1 = [] := by
        have := congrArg List.length hEA
        rw [List.length_append] at this
        rw [List.length_reverse] at hB
        exact List.eq_nil_of_length_eq_zero (by (first | lia | omega))
      rw [hEA, h1]; rfl
    subst hB1
    have hr28 : LstAt g8 r2 vs := hr2.le (hl3.trans hle8)
    (with_reducible refine x_next ?_; refine x_cons ?_; refine wpAny_Return_some ?_; refine wpAny_Compare1 ?_ (by with_unfolding_all rfl); refine Call_ ?_ (by with_unfolding_all rfl); refine r_glob ‹_› ‹_› ‹_› (by lks_lit) g_len ?_; refine r_cwbA ?_ (by with_unfolding_all rfl) (by with_unfolding_all rfl); refine args_cons ?_ (by with_unfolding_all rfl); refine r_loc ‹_› ‹_› (by kun_count) ?_; refine args_nil ?_; refine r_len (by kso_lit) (by kpa_letter) ?_; refine r_int ?_; refine r_gt ?_; refine x_ret ?_; refine OpQ.out ‹_› ?_)
    refine x_end0 S8 ⟨B1, ob8, ot8, oc8, marks8, p8, hR, ?_, rfl, bo8, tx8, mo8, hp8⟩
    rw [hlv]
end
section
variable {w : World} {G H g : Heap} {mg mb : Str → Option Value}
noncomputable def DeckO (o : Obj) : Prop := Ex1 fun ns => An2 (IntsO o ns) (ns.length ≤ 1000)
theorem draw2 (B : Base (A0.heap_1_1 w.params) G mg mb) {d : Addr} {o : Obj} {many : Int} {tm : Tok} (hd : DeckO o) (hm : 0 < many) :
    Fn PG w (.ref 532) 10 [.ref d, .int many tm] G H g [(d, o)] (fun v _ W' => Ex3 fun k t o' => An4 (v = .int k t) ((0 ≤ k ∧ k < many)) (W' = [(d, o')]) (DeckO o')) := by
  obtain ⟨ns, hi, hl⟩ := hd
  intro A gs dr tk os Q R P k
  refine draw_spec B hi hl hm A gs dr tk os Q R P fun v h' tk' g' W' M hP => k v h' tk' g' W' M ?_
  obtain ⟨t, o', rfl, rfl, h'⟩ := hP
  refine ⟨_, t, o', rfl, ?_, rfl, ns.tail, h', by rw [List.length_tail]; (first | lia | omega)⟩
  cases ns with
  | nil => exact ⟨Int.le_refl _, hm⟩
  | cons x r => exact ⟨Int.emod_nonneg _ (by (first | lia | omega)), Int.emod_lt_of_pos _ hm⟩
noncomputable def GapL (l : List Int) : Prop := l ≠ [] ∧ (∀ x ∈ l, blank x = true) ∧ l.length ≤ 3
noncomputable def WdAt (g : Heap) (v : Value) (l : List Int) : Prop := Ex1 fun r => An2 (v = .ref r) (IntsAt g r l)
theorem WdAt.le {g h v l} (x : WdAt g v l) (k : Le g h) : WdAt h v l := let ⟨r, a, b⟩ := x; ⟨r, a, b.le k⟩
theorem LsAre.wdle {g h vs} {ps : List (List Int)} (x : LsAre WdAt g vs ps) (k : Le g h) : LsAre WdAt h vs ps := x.le fun _ _ y => y.le k
theorem gap_spec (B : Base (A0.heap_1_1 w.params) G mg mb) {d : Addr} {o : Obj} (hd : DeckO o) :
    Fn PG w (.ref 551) 14 [.ref d] G H g [(d, o)] (fun v g' W' => Ex3 fun r l o' => An5 (v = .ref r) (IntsAt g' r l) (GapL l) (W' = [(d, o')]) (DeckO o')) := by
  refine fn_def [("deck", .ref d)] ["deck"] ["_law_draw"] [some (.ref d)] (more := []) B (by k_is) (by k_is) (fun s _ => BindsTo.of_eq rfl) rfl rfl (by decide +kernel) ?_
  intro A h gs dr tk os L R sc S
  (with_reducible refine OpAll.all ?_; intro _ _; refine x_cons ?_; refine wpAny_Return_some ?_; refine Subscript_ ?_; refine List_ ?_; refine args_cons ?_ (by with_unfolding_all rfl); refine List_ ?_; refine args_cons ?_ (by with_unfolding_all rfl); refine r_int ?_; refine args_nil ?_; refine r_intsI ‹_› (by apply IntsAre.cons; kda_here) (Nat.le_of_ble_eq_true rfl) ?_; intro _ _ _ _ _ _; refine args_cons ?_ (by with_unfolding_all rfl); refine List_ ?_; refine args_cons ?_ (by with_unfolding_all rfl); refine r_int ?_; refine args_nil ?_; refine r_intsI ‹_› (by apply IntsAre.cons; kda_here) (Nat.le_of_ble_eq_true rfl) ?_; intro _ _ _ _ _ _; refine args_cons ?_ (by with_unfolding_all rfl); refine List_ ?_; refine args_cons ?_ (by with_unfolding_all rfl); refine r_int ?_; refine args_cons ?_ (by with_unfolding_all rfl); refine r_int ?_; refine args_nil ?_; refine r_intsI ‹_› (by apply IntsAre.cons; kda_here) (Nat.le_of_ble_eq_true rfl) ?_; intro _ _ _ _ _ _; refine args_cons ?_ (by with_unfolding_all rfl); refine List_ ?_; refine args_cons ?_ (by with_unfolding_all rfl); refine r_int ?_; refine args_nil ?_; refine r_intsI ‹_› (by apply IntsAre.cons; kda_here) (Nat.le_of_ble_eq_true rfl) ?_; intro _ _ _ _ _ _; refine args_cons ?_ (by with_unfolding_all rfl); refine List_ ?_; refine args_cons ?_ (by with_unfolding_all rfl); refine r_int ?_; refine args_cons ?_ (by with_unfolding_all rfl); refine r_int ?_; refine args_cons ?_ (by with_unfolding_all rfl); refine r_int ?_; refine args_nil ?_; refine r_intsI ‹_› (by apply IntsAre.cons; kda_here) (Nat.le_of_ble_eq_true rfl) ?_; intro _ _ _ _ _ _; refine args_nil ?_)
  rename_i r1 _ g1 _ i1 _ r2 _ g2 e2 i2 _ r3 _ g3 e3 i3 _ r4 _ g4 e4 i4 _ r5 _ g5 e5 i5 _
  refine r_listI (S := by assumption) ?_
  intro rl h1 gl hle1 hr1 S1
  have hA : LsAre WdAt gl [.ref r1, .ref r2, .ref r3, .ref r4, .ref r5] [[32], [10], [32, 32], [9], [10, 10, 32]] :=
    .cons ⟨_, rfl, i1.le (e2.trans (e3.trans (e4.trans (e5.trans hle1))))⟩ (.cons ⟨_, rfl, i2.le (e3.trans (e4.trans (e5.trans hle1)))⟩ (.cons ⟨_, rfl, i3.le (e4.trans (e5.trans hle1))⟩ (.cons ⟨_, rfl, i4.le (e5.trans hle1)⟩ (.cons ⟨_, rfl, i5.le hle1⟩ .nil))))
  (with_reducible refine Call_ ?_ (by with_unfolding_all rfl); refine r_glob ‹_› ‹_› ‹_› (by lks_lit) g_law_draw ?_; refine r_cwA ‹_› kp_532 ?_ (by with_unfolding_all rfl) (by with_unfolding_all rfl); refine args_cons ?_ (by with_unfolding_all rfl); refine r_loc ‹_› ‹_› (by kun_count) ?_; refine args_cons ?_ (by with_unfolding_all rfl); refine r_int ?_; refine args_nil ?_; refine r_le ‹_› (by rfl) ?_)
  refine r_call0 S1 (draw2 B hd (by decide)) R (by decide) ?_
  rintro _ h2 tk2 g2 _ hle2 S2 ⟨k, t, o', rfl, hk, rfl, hd'⟩
  skip
  obtain ⟨l, hl, hg⟩ : ∃ l, ([[32], [10], [32, 32], [9], [10, 10, 32]] : List (List Int))[k.toNat]? = some l ∧ GapL l := by
    have hk5 : k = 0 ∨ k = 1 ∨ k = 2 ∨ k = 3 ∨ k = 4 := by (first | lia | omega)
    rcases hk5 with rfl | rfl | rfl | rfl | rfl <;> exact ⟨_, rfl, by unfold GapL; decide⟩
  obtain ⟨v, hv, rr, rfl, hrr⟩ := hA.get hl
  (with_reducible refine' r_item ?a179x1 ?a179x2 ?a179x3 ?_ ?a179x4; (case a179x4 => with_unfolding_all rfl); (case a179x1 => kso_lit); (case a179x3 => assumption); (case a179x2 => kpa_letter); refine x_ret ?_; refine OpQ.out ‹_› ?_)
  exact x_end0 S2 ⟨rr, l, o', rfl, hrr.le hle2, hg, rfl, hd'⟩
theorem fresh_spec (B : Base (A0.heap_1_1 w.params) G mg mb) {d : Addr} {o : Obj} (hd : DeckO o) :
    Fn PG w (.ref 537) 14 [.ref d] G H g [(d, o)] (fun v g' W' => Ex4 fun r vs ws o' => An7 (v = .ref r) (LstAt g' r vs) (LsAre WdAt g' vs ws) ((∀ l ∈ ws, FrW l)) (ws.length ≤ 3) (W' = [(d, o')]) (DeckO o')) := by
  refine fn_def1C "deck" ["_law_draw", "range"] B (by k_is) (by k_is) rfl (fun _ => rfl) (by decide +kernel) ?_
  intro A h gs dr tk os L g1 R hle1 hc EI S
  (with_reducible refine OpAll.all ?_; intro _ _; refine x_cons ?_; refine wpAny_Return_some ?_)
  refine x_comp rfl ?_
  (with_reducible refine Call_ ?_ (by with_unfolding_all rfl); refine r_globE ‹_› ‹_› ‹_› (by lks_lit) g_range ?_; refine r_cwt ?_ (by with_unfolding_all rfl) (by with_unfolding_all rfl); refine args_cons ?_ (by with_unfolding_all rfl); refine Call_ ?_ (by with_unfolding_all rfl); refine r_globE ‹_› ‹_› ‹_› (by lks_lit) g_law_draw ?_; refine r_cwA ‹_› kp_532 ?_ (by with_unfolding_all rfl) (by with_unfolding_all rfl); refine args_cons ?_ (by with_unfolding_all rfl); refine r_cellE ‹_› (by lks_lit) (by kso_lit) ?_; refine args_cons ?_ (by with_unfolding_all rfl); refine r_int ?_; refine args_nil ?_; refine r_le ‹_› (by rfl) ?_)
  refine r_call0 S (draw2 B hd (by decide)) R (by decide) ?_
  rintro _ h2 tk2 g2 _ hle2 S2 ⟨k, t, o2, rfl, hk, rfl, hd2⟩
  have hc2 := hc.le hle2
  (with_reducible refine args_nil ?_; refine r_range ‹_› ?_; intro _ _ _ _ _ _ _)
  rename_i rr h3 g3 tk3 hle3 hr3 S3
  have hc3 := hc2.le hle3
  refine r_compR R S3 hr3 ⟨hk.1, by (first | lia | omega)⟩ rfl rfl rfl (fun i g' ys news' => Ex2 fun ws o' => An5 (LsAre WdAt g' ys ws) ((∀ l ∈ ws, FrW l)) (ws.length ≤ i) (news' = [(d, o')]) (DeckO o')) ?_ ⟨[], o2, .nil, (fun l hl => by cases hl), Nat.le_refl _, rfl, hd2⟩ ?_ ?_
  · rintro i ga gb ys l hl ⟨ws, o', h1, h2, h3, h4, h5⟩
    exact ⟨ws, o', h1.wdle hl, h2, h3, h4, h5⟩
  · rintro i ti C g4 h4 tk4 ys _ own4 hi hle4 ⟨ws, o4, hys, hws, hlen, rfl, hd4⟩ hyl S4
    simp only [List.cons_append, List.nil_append] at S4
    have hc4 := hc3.le hle4
    refine x_inC (x := "nth") (gl := ["_law_draw"]) (cn := ["deck"]) (cl := [("deck", L + 1)]) rfl (by decide +kernel) (fun p hp => by rw [List.mem_singleton.mp hp]; rfl) (fun EC => ?_)
    (with_reducible refine wpAny_BinOp ?_; refine List_ ?_; refine args_cons ?_ (by with_unfolding_all rfl); refine wpAny_BinOp ?_; refine r_int ?_; refine Call_ ?_ (by with_unfolding_all rfl); refine r_globE ‹_› ‹_› ‹_› (by lks_lit) g_law_draw ?_; refine r_cwA ‹_› kp_532 ?_ (by with_unfolding_all rfl) (by with_unfolding_all rfl); refine args_cons ?_ (by with_unfolding_all rfl); refine r_cellE ‹_› (by lks_lit) (by kso_lit) ?_; refine args_cons ?_ (by with_unfolding_all rfl); refine r_int ?_; refine args_nil ?_; refine r_le ‹_› (by rfl) ?_)
    refine r_call (W := [(d, o4)]) (rest := own4) (by assumption) (.refl _) (draw2 B hd4 (many := 3) (by decide)) R (by decide) ?_
    rintro _ h5 tk5 g5 _ hle5 S5 ⟨k5, t5, o5, rfl, hk5, rfl, hd5⟩
    simp only [List.cons_append, List.nil_append] at S5
    have hc5 := hc4.le hle5
    (with_reducible refine r_add ?_; refine args_nil ?_; refine r_intsI ‹_› (by apply IntsAre.cons; kda_here) (Nat.le_of_ble_eq_true rfl) ?_; intro _ _ _ _ _ _; refine wpAny_BinOp ?_; refine r_int ?_; refine Call_ ?_ (by with_unfolding_all rfl); refine r_globE ‹_› ‹_› ‹_› (by lks_lit) g_law_draw ?_; refine r_cwA ‹_› kp_532 ?_ (by with_unfolding_all rfl) (by with_unfolding_all rfl); refine args_cons ?_ (by with_unfolding_all rfl); refine r_cellE ‹_› (by lks_lit) (by kso_lit) ?_; refine args_cons ?_ (by with_unfolding_all rfl); refine r_int ?_; refine args_nil ?_; refine r_le ‹_› (by rfl) ?_)
    refine r_call (W := [(d, o5)]) (rest := own4) (by assumption) (.refl _) (draw2 B hd5 (many := 2) (by decide)) R (by decide) ?_
    rintro _ h6 tk6 g6 _ hle6 S6 ⟨k6, t6, o6, rfl, hk6, rfl, hd6⟩
    simp only [List.cons_append, List.nil_append] at S6
    (with_reducible refine r_add ?_; refine r_mul1 ‹_› (by kso_lit) (by kpa_letter) ?_; intro _ _ _ _ _ _)
    refine ⟨_, _, _, [(d, o6)], rfl, ?_, by assumption, ws ++ [List.replicate (1 + k6).toNat (65 + k5)], o6, (hys.wdle ?_).app (.one ⟨_, rfl, by assumption⟩), fun l hl => ?_, ?_, rfl, hd6⟩
    · kse_has
    · kse_has
    · rcases List.mem_append.mp hl with hl | hl
      · exact hws l hl
      · exact ⟨65 + k5, (1 + k6).toNat, by (first | lia | omega), by (first | lia | omega), by (first | lia | omega), by (first | lia | omega), List.mem_singleton.mp hl⟩
    · rw [List.length_append]; simp only [List.length_cons, List.length_nil]; (first | lia | omega)
  · rintro r5 g5 h5 tk5 ys _ hle5 hr5 S5 ⟨ws, o5, hys, hws, hlen, rfl, hd5⟩
    (with_reducible refine x_ret ?_; refine OpQ.out ‹_› ?_)
    exact x_end0 S5 ⟨r5, ys, ws, o5, rfl, hr5, hys, hws, by (first | lia | omega), rfl, hd5⟩
end
section
variable {w : World} {G H g : Heap} {mg mb : Str → Option Value}
theorem GapL.blk {l : List Int} (h : GapL l) : Blk l := ⟨h.2.1, h.2.2⟩
theorem Blk.nil : Blk [] := ⟨fun x hx => (by cases hx), Nat.zero_le _⟩
theorem flat_few : ∀ (S : List Seg), (∀ s ∈ S, s.1.length ≤ 3 ∧ s.2.length ≤ 3) → (flat S).length ≤ 6 * S.length
  | [], _ => Nat.le_refl _
  | a :: r, h => by
    have h1 := h a (.head _)
    have h2 := flat_few r fun s hs => h s (.tail _ hs)
    simp only [flat, List.flatMap_cons, List.length_append, List.length_cons] at h2 ⊢
    (first | lia | omega)
theorem joined_spec (B : Base (A0.heap_1_1 w.params) G mg mb) {d wl : Addr} {o : Obj} {vw : List Value} {ws : List (List Int)} (hd : DeckO o) (hw : LstAt g wl vw) (hA : LsAre WdAt g vw ws) (hz : ws.length ≤ 40 ∧ ∀ l ∈ ws, l.length ≤ 3) :
    Fn PG w (.ref 558) 18 [.ref d, .ref wl] G H g [(d, o)] (fun v g' W' => Ex9 fun T r1 r2 txt fs o' lead S tail => An7 (v = .ref T) (TupAt g' T [.ref r1, .ref r2]) (IntsAt g' r1 txt) (IntsAt g' r2 fs) (Joined ws txt fs lead S tail) (W' = [(d, o')]) (DeckO o')) := by
  refine fn_def [("deck", .ref d), ("words", .ref wl)] ["deck", "words", "codes", "firsts", "nth", "word"] ["_law_gap", "_law_draw", "enumerate", "len"] [some (.ref d), some (.ref wl), none, none, none, none] (more := ["codes", "firsts", "nth", "word"]) B (by k_is) (by k_is) (fun s _ => BindsTo.of_eq rfl) rfl rfl (by decide +kernel) ?_
  intro A h gs dr tk os L R sc S
  (with_reducible refine OpAll.all ?_; intro _ _; refine x_cons ?_; refine x_swap2 ?_ (by with_unfolding_all rfl) (by with_unfolding_all rfl); refine Tuple_ ?_; refine args_cons ?_ (by with_unfolding_all rfl))
  refine x_midV (fun v s' => Ex6 fun g1 h1 tk1 r l o1 => An7 (v = .ref r) (s' = ⟨h1, gs, dr, tk1, os⟩) (Le g g1) (St (ent G H g [(d, o)]) ["deck", "words", "codes", "firsts", "nth", "word"] L g1 h1 [some (.ref d), some (.ref wl), none, none, none, none] [(d, o1)]) (DeckO o1) (IntsAt g1 r l) (Blk l)) ?_ ?_
  · (with_reducible refine OpAll.all ?_; intro _ _; refine IfExp_ ?_; refine wpAny_isTrue_Compare1 ?_ (by with_unfolding_all rfl); refine Call_ ?_ (by with_unfolding_all rfl); refine r_glob ‹_› ‹_› ‹_› (by lks_lit) g_law_draw ?_; refine r_cwA ‹_› kp_532 ?_ (by with_unfolding_all rfl) (by with_unfolding_all rfl); refine args_cons ?_ (by with_unfolding_all rfl); refine r_loc ‹_› ‹_› (by kun_count) ?_; refine args_cons ?_ (by with_unfolding_all rfl); refine r_int ?_; refine args_nil ?_; refine r_le ‹_› (by rfl) ?_)
    refine r_call0 S (draw2 B hd (by decide)) R (by decide) ?_
    rintro _ h1 tk1 g1 _ hle1 S1 ⟨k1, u1, o1, rfl, hk1, rfl, hd1⟩
    (with_reducible refine r_int ?_; refine r_eq ?_; refine wpAny_truthy_bool ?_; refine if_dec ?_ ?_ <;> intro _; refine Call_ ?_ (by with_unfolding_all rfl); refine r_glob ‹_› ‹_› ‹_› (by lks_lit) g_law_gap ?_; refine r_cwA ‹_› kp_551 ?_ (by with_unfolding_all rfl) (by with_unfolding_all rfl); refine args_cons ?_ (by with_unfolding_all rfl); refine r_loc ‹_› ‹_› (by kun_count) ?_; refine args_nil ?_; refine r_le ‹_› (by rfl) ?_; rotate_left; refine List_ ?_; refine args_nil ?_; rotate_left)
    · refine r_call0 S1 (gap_spec B hd1) R (by decide) ?_
      rintro _ h2 tk2 g2 _ hle2 S2 ⟨r, l, o2, rfl, hr, hg, rfl, hd2⟩
      (with_reducible refine OpQ.out ‹_› ?_)
      exact ⟨g2, h2, tk2, r, l, o2, rfl, rfl, hle1.trans hle2, S2, hd2, hr, hg.blk⟩
    · refine r_listI S1 ?_
      intro r h2 g2 hle2 hr S2
      (with_reducible refine OpQ.out ‹_› ?_)
      exact ⟨g2, h2, _, r, [], o1, rfl, rfl, hle1.trans hle2, S2, hd1, hr.ints .nil, Blk.nil⟩
  rintro _ _ ⟨g1, h1, tk1, r1, lead, o1, rfl, rfl, hle1, S1, hd1, hr1, hlead⟩
  (with_reducible refine args_cons ?_ (by with_unfolding_all rfl); refine List_ ?_; refine args_nil ?_)
  refine r_list S1 ?_
  intro f h2 of hof S2
  (with_reducible refine args_nil ?_; refine r_swap2 ‹_› ‹_› ?_; intro _ _; refine r_swpN ?_; refine r_store ‹_› ‹_› (by kxw_int) ?_; intro _ _; refine r_swpN ?_; refine r_store ‹_› ‹_› (by kxw_int) ?_; intro _ _; refine r_swp0 ?_; refine x_next ?_; refine x_cons ?_; refine x_for ?_ (by intro _; with_unfolding_all rfl); refine Call_ ?_ (by with_unfolding_all rfl); refine r_glob ‹_› ‹_› ‹_› (by lks_lit) g_enumerate ?_; refine r_cwt ?_ (by with_unfolding_all rfl) (by with_unfolding_all rfl); refine args_cons ?_ (by with_unfolding_all rfl); refine r_loc ‹_› ‹_› (by kun_count) ?_; refine args_nil ?_)
  refine r_enumFor R (by assumption) (hw.le hle1) (fun i g' vals' news' => Ex8 fun rc o' of us fs T b1 b2 => An9 (vals' = [some (.ref d), some (.ref wl), some (.ref rc), some (.ref f), b1, b2]) (news' = [(f, of), (d, o')]) (DeckO o') (IntsAt g' rc (lead ++ flat T)) (LstO of us) (IntsAre us fs) (fs = jfs lead.length T) (T.map (·.2) = ws.take i) ((∀ j s, T[j]? = some s → SegOk j s))) ⟨r1, o1, of, [], [], [], _, _, rfl, rfl, hd1, by simpa [flat] using hr1, hof, .nil, rfl, rfl, fun j s hj => by simp at hj⟩ ?_ ?_ rfl rfl
  · rintro i x t g3 h3 tk3 _ _ own3 hx hle3 ⟨rc, o3, of, us, fs, T, b1, b2, rfl, rfl, hd3, hrc, hof, hus, hfs, hT, hseg⟩ S3
    simp only [List.cons_append, List.nil_append] at S3
    obtain ⟨wd, hwd, rw, rfl, hrw⟩ := hA.at hx
    have hi : i < ws.length := (List.getElem?_eq_some_iff.mp hwd).1
    have hTl : T.length = i := by have := congrArg List.length hT; rw [List.length_map, List.length_take] at this; (first | lia | omega)
    have hw3 : wd.length ≤ 3 := hz.2 _ (List.mem_of_getElem? hwd)
    have hsl : ∀ s ∈ T, s.1.length ≤ 3 ∧ s.2.length ≤ 3 := fun s hs => by
      obtain ⟨j, hj⟩ := List.getElem?_of_mem hs
      refine ⟨?_, hz.2 _ ?_⟩
      · have := hseg j s hj
        unfold SegOk at this
        split at this
        · rw [this]; exact Nat.zero_le _
        · exact this.2.2
      · have : s.2 ∈ T.map (·.2) := List.mem_map_of_mem hs
        rw [hT] at this
        exact List.mem_of_mem_take this
    have hfl := flat_few T hsl
    have hl3 := hlead.2
    have hrw3 := hrw.le (hle1.trans hle3)
    (with_reducible refine OpAll.all ?_; intro _ _; refine r_asgN ?_; refine r_store ‹_› ‹_› (by kxw_int) ?_; intro _ _; refine r_asgN ?_; refine r_store ‹_› ‹_› (by kxw_int) ?_; intro _ _; refine r_asg0 ?_; refine x_cons ?_; refine x_assign ?_ (by with_unfolding_all rfl); refine wpAny_BinOp ?_; refine r_loc ‹_› ‹_› (by kun_count) ?_)
    refine x_midV (fun v s' => Ex6 fun g4 h4 tk4 r l o4 => An8 (v = .ref r) (s' = ⟨h4, gs, dr, tk4, os⟩) (Le g3 g4) (St (ent G H g [(d, o)]) ["deck", "words", "codes", "firsts", "nth", "word"] L g4 h4 [some (.ref d), some (.ref wl), some (.ref rc), some (.ref f), some (.int i t), some (.ref rw)] ((f, of) :: (d, o4) :: own3)) (DeckO o4) (IntsAt g4 r l) (SegOk i (l, wd)) (l.length ≤ 3)) ?_ ?_
    · (with_reducible refine OpAll.all ?_; intro _ _; refine IfExp_ ?_; refine wpAny_isTrue_Compare1 ?_ (by with_unfolding_all rfl); refine r_loc ‹_› ‹_› (by kun_count) ?_; refine r_int ?_; refine r_gt ?_; refine wpAny_truthy_bool ?_; refine if_dec ?_ ?_ <;> intro _; refine Call_ ?_ (by with_unfolding_all rfl); refine r_glob ‹_› ‹_› ‹_› (by lks_lit) g_law_gap ?_; refine r_cwA ‹_› kp_551 ?_ (by with_unfolding_all rfl) (by with_unfolding_all rfl); refine args_cons ?_ (by with_unfolding_all rfl); refine r_loc ‹_› ‹_› (by kun_count) ?_; refine args_nil ?_; refine r_le ‹_› (by rfl) ?_; rotate_left; refine List_ ?_; refine args_nil ?_; rotate_left)
      · refine r_call (W := [(d, o3)]) (rest := (f, of) :: own3) (by assumption) (.swap _ _ _) (gap_spec B hd3) R (by decide) ?_
        rintro _ h4 tk4 g4 _ hle4 S4 ⟨r, l, o4, rfl, hr, hg, rfl, hd4⟩
        (with_reducible refine OpQ.out ‹_› ?_)
        refine ⟨g4, h4, tk4, r, l, o4, rfl, rfl, hle4, S4.perm (.swap _ _ _), hd4, hr, ?_, hg.2.2⟩
        unfold SegOk
        rw [if_neg (by (first | lia | omega))]
        exact hg
      · refine r_listI (by assumption) ?_
        intro r h4 g4 hle4 hr S4
        (with_reducible refine OpQ.out ‹_› ?_)
        refine ⟨g4, h4, _, r, [], o3, rfl, rfl, hle4, S4, hd3, hr.ints .nil, ?_, Nat.zero_le _⟩
        unfold SegOk
        rw [if_pos (by (first | lia | omega))]
    rintro _ _ ⟨g4, h4, tk4, r4, l, o4, rfl, rfl, hle4, S4, hd4, hr4, hso, hll⟩
    have hrc4 := hrc.le hle4
    have hrw4 := hrw3.le hle4
    have hul := hus.length
    (with_reducible refine r_addIm ‹_› (by kso_lit) (by kso_lit) (by kpa_letter) ?_; intro _ _ _ _ _ _; refine r_store ‹_› ‹_› (by kxw_int) ?_; intro _ _; refine x_next ?_; refine x_cons ?_; refine x_expr ‹_› ?_ (by with_unfolding_all rfl); refine MethodCall_ ?_ (by with_unfolding_all rfl); refine r_loc ‹_› ‹_› (by kun_count) ?_; refine r_method (by kso_lit) PySem.F.slot_list_append PySem.F.type_list_append ?_; refine r_cwbB ?_ (by with_unfolding_all rfl) (by with_unfolding_all rfl); refine args_cons ?_ (by with_unfolding_all rfl); refine Call_ ?_ (by with_unfolding_all rfl); refine r_glob ‹_› ‹_› ‹_› (by lks_lit) g_len ?_; refine r_cwbA ?_ (by with_unfolding_all rfl) (by with_unfolding_all rfl); refine args_cons ?_ (by with_unfolding_all rfl); refine r_loc ‹_› ‹_› (by kun_count) ?_; refine args_nil ?_; refine r_lenI (by kso_lit) (by kpa_letter) ?_; refine args_nil ?_)
    refine r_append (S := by assumption) hof (by kxw_text) ?_ ?_
    · rw [hul, hfs, sizeLine_eq]
      have : ∀ (S : List Seg) k, (jfs k S).length = S.length := fun S => by
        induction S with
        | nil => intro k; rfl
        | cons a r ih => intro k; simp [jfs, ih]
      rw [this]; (first | lia | omega)
    intro h5 of5 hof5 S5
    (with_reducible refine x_next ?_; refine x_cons ?_; refine x_assign ?_ (by with_unfolding_all rfl); refine wpAny_BinOp ?_; refine r_loc ‹_› ‹_› (by kun_count) ?_; refine r_loc ‹_› ‹_› (by kun_count) ?_; refine r_addIm ‹_› (by kso_lit) (by kso_lit) (by kpa_letter) ?_; intro _ _ _ _ _ _; refine r_store ‹_› ‹_› (by kxw_int) ?_; intro _ _; refine x_next ?_; refine wpAny_execs_nil ?_; refine OpQ.out ‹_› ?_)
    have hle4' : Le g1 g4 := hle3.trans hle4
    refine ⟨_, _, _, _, [(f, of5), (d, o4)], rfl, ?_, by assumption, _, o4, of5, _, _, T ++ [(l, wd)], _, _, rfl, rfl, hd4, ?_, hof5, hus.append (.cons _ _ .nil), ?_, ?_, ?_⟩
    · kse_has
    · rw [flat_snoc, ← List.append_assoc, ← List.append_assoc]
      assumption
    · rw [jfs_snoc, hfs, List.length_append, List.length_append]
      simp only [Int.natCast_add]
    · rw [List.map_append, hT, List.take_add_one, hwd]; rfl
    · intro j s hj
      by_cases hjl : j < T.length
      · exact hseg j s (by rwa [List.getElem?_append_left hjl] at hj)
      · rw [List.getElem?_append_right (by (first | lia | omega))] at hj
        have hj0 : j - T.length = 0 := by
          cases hz0 : j - T.length with
          | zero => rfl
          | succ q => rw [hz0] at hj; simp at hj
        rw [hj0] at hj
        simp only [List.getElem?_cons_zero, Option.some.injEq] at hj
        subst hj
        rw [show j = i by (first | lia | omega)]
        exact hso
  · rintro g3 h3 tk3 _ _ hle3 S3 ⟨rc, o3, of, us, fs, T, b1, b2, rfl, rfl, hd3, hrc, hof, hus, hfs, hT, hseg⟩
    have hTl : T.length = ws.length := by have := congrArg List.length hT; rw [List.length_map, List.length_take, hA.length] at this; (first | lia | omega)
    have hT' : T.map (·.2) = ws := by rw [hT, hA.length, List.take_length]
    have hsl : ∀ s ∈ T, s.1.length ≤ 3 ∧ s.2.length ≤ 3 := fun s hs => by
      obtain ⟨j, hj⟩ := List.getElem?_of_mem hs
      refine ⟨?_, hz.2 _ ?_⟩
      · have := hseg j s hj
        unfold SegOk at this
        split at this
        · rw [this]; exact Nat.zero_le _
        · exact this.2.2
      · have : s.2 ∈ T.map (·.2) := List.mem_map_of_mem hs
        rw [hT'] at this
        exact this
    have hfl := flat_few T hsl
    have hl3 := hlead.2
    (with_reducible refine x_next ?_; refine x_cons ?_; refine wpAny_Return_some ?_; refine Tuple_ ?_; refine args_cons ?_ (by with_unfolding_all rfl); refine wpAny_BinOp ?_; refine r_loc ‹_› ‹_› (by kun_count) ?_)
    refine x_midV (fun v s' => Ex6 fun g4 h4 tk4 r l o4 => An7 (v = .ref r) (s' = ⟨h4, gs, dr, tk4, os⟩) (Le g3 g4) (St (ent G H g [(d, o)]) ["deck", "words", "codes", "firsts", "nth", "word"] L g4 h4 [some (.ref d), some (.ref wl), some (.ref rc), some (.ref f), b1, b2] [(f, of), (d, o4)]) (DeckO o4) (IntsAt g4 r l) (Blk l)) ?_ ?_
    · (with_reducible refine OpAll.all ?_; intro _ _; refine IfExp_ ?_; refine wpAny_isTrue_Compare1 ?_ (by with_unfolding_all rfl); refine Call_ ?_ (by with_unfolding_all rfl); refine r_glob ‹_› ‹_› ‹_› (by lks_lit) g_law_draw ?_; refine r_cwA ‹_› kp_532 ?_ (by with_unfolding_all rfl) (by with_unfolding_all rfl); refine args_cons ?_ (by with_unfolding_all rfl); refine r_loc ‹_› ‹_› (by kun_count) ?_; refine args_cons ?_ (by with_unfolding_all rfl); refine r_int ?_; refine args_nil ?_; refine r_le ‹_› (by rfl) ?_)
      refine r_call (W := [(d, o3)]) (rest := [(f, of)]) S3 (.swap _ _ _) (draw2 B hd3 (by decide)) R (by decide) ?_
      rintro _ h4 tk4 g4 _ hle4 S4 ⟨k4, u4, o4, rfl, hk4, rfl, hd4⟩
      simp only [List.cons_append, List.nil_append] at S4
      (with_reducible refine r_int ?_; refine r_eq ?_; refine wpAny_truthy_bool ?_; refine if_dec ?_ ?_ <;> intro _; refine Call_ ?_ (by with_unfolding_all rfl); refine r_glob ‹_› ‹_› ‹_› (by lks_lit) g_law_gap ?_; refine r_cwA ‹_› kp_551 ?_ (by with_unfolding_all rfl) (by with_unfolding_all rfl); refine args_cons ?_ (by with_unfolding_all rfl); refine r_loc ‹_› ‹_› (by kun_count) ?_; refine args_nil ?_; refine r_le ‹_› (by rfl) ?_; rotate_left; refine List_ ?_; refine args_nil ?_; rotate_left)
      · refine r_call (W := [(d, o4)]) (rest := [(f, of)]) S4 (.refl _) (gap_spec B hd4) R (by decide) ?_
        rintro _ h5 tk5 g5 _ hle5 S5 ⟨r, l, o5, rfl, hr, hg, rfl, hd5⟩
        (with_reducible refine OpQ.out ‹_› ?_)
        exact ⟨g5, h5, tk5, r, l, o5, rfl, rfl, hle4.trans hle5, S5.perm (.swap _ _ _), hd5, hr, hg.blk⟩
      · refine r_listI S4 ?_
        intro r h5 g5 hle5 hr S5
        (with_reducible refine OpQ.out ‹_› ?_)
        exact ⟨g5, h5, _, r, [], o4, rfl, rfl, hle4.trans hle5, S5.perm (.swap _ _ _), hd4, hr.ints .nil, Blk.nil⟩
    rintro _ _ ⟨g4, h4, tk4, r4, l, o4, rfl, rfl, hle4, S4, hd4, hr4, htail⟩
    have hrc4 := hrc.le hle4
    have hl4 := htail.2
    (with_reducible refine r_addIm ‹_› (by kso_lit) (by kso_lit) (by kpa_letter) ?_; intro _ _ _ _ _ _; refine args_cons ?_ (by with_unfolding_all rfl); refine r_loc ‹_› ‹_› (by kun_count) ?_; refine args_nil ?_)
    refine r_tupI (S := by assumption) ?_
    intro T9 h9 g9 hle9 hT9 S9
    (with_reducible refine x_ret ?_; refine OpQ.out ‹_› ?_)
    obtain ⟨g10, k1, k2, S10⟩ := S9.freezeW (fun b hb => by
      have hb' : b = d := by simpa [ent] using hb
      rw [hb']; exact .head _)
    refine x_end0 S10 ⟨T9, _, f, _, fs, o4, lead, T, l, rfl, hT9.le k1, ?_, ⟨of, k2, us, hof, hus⟩, ⟨hT', hseg, hlead, htail, rfl, hfs⟩, rfl, hd4⟩
    kun_lit
end
section
variable {w : World} {G H g : Heap} {mg mb : Str → Option Value}
noncomputable def PiAt (g : Heap) (v : Value) (p : Int × Int) : Prop := Ex1 fun r => An2 (v = .ref r) (IntsAt g r [p.1, p.2])
theorem LsAre.pile {g h vs} {ps : List (Int × Int)} (x : LsAre PiAt g vs ps) (k : Le g h) : LsAre PiAt h vs ps := x.le fun _ _ ⟨r, a, b⟩ => ⟨r, a, b.le k⟩
theorem perm3 {α : Type} (a b c : α) : [a, b, c].Perm [c, b, a] :=
  ((List.Perm.swap b a [c]).trans (.cons _ (.swap c a []))).trans (.swap c b [a])
theorem perm4w {α : Type} (a b c d : α) (r : List α) : (a :: b :: c :: d :: r).Perm (d :: b :: c :: a :: r) :=
  ((List.perm_append_comm (l₁ := [a]) (l₂ := [b, c, d])).trans (List.perm_middle (l₁ := [b, c]) (l₂ := [a]) (a := d))).append_right r
theorem words_spec (B : Base (A0.heap_1_1 w.params) G mg mb) {d : Addr} {o : Obj} (hd : DeckO o) :
    Fn PG w (.ref 544) 18 [.ref d] G H g [(d, o)] (fun v g' W' => Ex14 fun T r1 r2 r3 v1 v2 v3 W O Ps bl gt ft o' => An11 (v = .ref T) (TupAt g' T [.ref r1, .ref r2, .ref r3]) (LstAt g' r1 v1) (LsAre WdAt g' v1 W) (LstAt g' r2 v2) (LsAre WdAt g' v2 O) (LstAt g' r3 v3) (LsAre PiAt g' v3 Ps) (WordsR W O Ps bl gt ft) (W' = [(d, o')]) (DeckO o')) := by
  refine fn_def [("deck", .ref d)] ["deck", "words", "others", "pairs", "gone", "nth", "is_gone"] ["_law_draw", "_law_fresh", "range", "len"] [some (.ref d), none, none, none, none, none, none] (more := ["words", "others", "pairs", "gone", "nth", "is_gone"]) B (by k_is) (by k_is) (fun s _ => BindsTo.of_eq rfl) rfl rfl (by decide +kernel) ?_
  intro A h gs dr tk os L R sc S
  (with_reducible refine OpAll.all ?_; intro _ _; refine x_cons ?_; refine Assign_Tuple ?_ (by with_unfolding_all rfl) (by with_unfolding_all rfl); refine Tuple_ ?_; refine args_cons ?_ (by with_unfolding_all rfl); refine List_ ?_; refine args_nil ?_)
  refine r_list S ?_
  intro wa h1 ow how S1
  (with_reducible refine args_cons ?_ (by with_unfolding_all rfl); refine List_ ?_; refine args_nil ?_)
  refine r_list S1 ?_
  intro oa h2 oo hoo S2
  (with_reducible refine args_cons ?_ (by with_unfolding_all rfl); refine List_ ?_; refine args_nil ?_)
  refine r_list S2 ?_
  intro pa h3 op hop S3
  (with_reducible refine args_cons ?_ (by with_unfolding_all rfl); refine r_int ?_; refine args_nil ?_)
  refine r_tupI (S := by assumption) ?_
  intro T4 h4 g4 hle4 hT4 S4
  (with_reducible refine r_asgT ‹_› ‹_› (by kso_lit) ?_ (by with_unfolding_all rfl) (by with_unfolding_all rfl); intro _ _ _; refine r_asgN ?_; refine r_store ‹_› ‹_› (by kxw_int) ?_; intro _ _; refine r_asgN ?_; refine r_store ‹_› ‹_› (by kxw_int) ?_; intro _ _; refine r_asgN ?_; refine r_store ‹_› ‹_› (by kxw_int) ?_; intro _ _; refine r_asgN ?_; refine r_store ‹_› ‹_› (by kxw_int) ?_; intro _ _; refine r_asg0 ?_; refine x_next ?_; refine x_cons ?_; refine x_for ?_ (by intro _; with_unfolding_all rfl); refine Call_ ?_ (by with_unfolding_all rfl); refine r_glob ‹_› ‹_› ‹_› (by lks_lit) g_range ?_; refine r_cwt ?_ (by with_unfolding_all rfl) (by with_unfolding_all rfl); refine args_cons ?_ (by with_unfolding_all rfl); refine Call_ ?_ (by with_unfolding_all rfl); refine r_glob ‹_› ‹_› ‹_› (by lks_lit) g_law_draw ?_; refine r_cwA ‹_› kp_532 ?_ (by with_unfolding_all rfl) (by with_unfolding_all rfl); refine args_cons ?_ (by with_unfolding_all rfl); refine r_loc ‹_› ‹_› (by kun_count) ?_; refine args_cons ?_ (by with_unfolding_all rfl); refine r_int ?_; refine args_nil ?_; refine r_le ‹_› (by rfl) ?_)
  refine r_call (W := [(d, o)]) (rest := [(pa, op), (oa, oo), (wa, ow)]) (by assumption) (List.perm_append_singleton (d, o) [(pa, op), (oa, oo), (wa, ow)]) (draw2 B hd (many := 9) (by decide)) R (by decide) ?_
  rintro _ h5 tk5 g5 _ hle5 S5 ⟨k5, t5, o5, rfl, hk5, rfl, hd5⟩
  simp only [List.cons_append, List.nil_append] at S5
  (with_reducible refine args_nil ?_; refine r_range ‹_› ?_; intro _ _ _ _ _ _ _)
  rename_i rr h6 g6 tk6 hle6 hr6 S6
  refine r_forR R (S6.perm (news' := [(d, o5), (wa, ow), (oa, oo), (pa, op)]) (.cons _ (perm3 _ _ _))) hr6 ⟨hk5.1, by (first | lia | omega)⟩ (fun i g' vals' news' => Ex17 fun (gn : Int) oa ow oo op od tg b1 b2 vW vO vP W O Ps bl gt => An14 (gn = (gt : List (List Int)).length) (vals' = [some (.ref d), some (.ref wa), some (.ref oa), some (.ref pa), some (.int gn tg), b1, b2]) (news' = [(d, od), (wa, ow), (oa, oo), (pa, op)]) (DeckO od) (LstO ow vW) (LsAre WdAt g' vW W) (LstO oo vO) (LsAre WdAt g' vO O) (LstO op vP) (LsAre PiAt g' vP Ps) (WordsR W O Ps bl gt []) (W.length = i) (O.length ≤ 4 * i) (Ps.length ≤ i))
    ⟨0, oa, ow, oo, op, o5, _, _, _, _, _, _, [], [], [], [], [], rfl, rfl, rfl, hd5, how, .nil, hoo, .nil, hop, .nil, ⟨rfl, rfl, rfl, by decide, fun x hx => (by cases hx), fun l hl => (by cases hl), fun j l hj => (by simp at hj)⟩, rfl, Nat.le_refl _, Nat.le_refl _⟩ ?_ ?_
  · rintro i t g7 h7 tk7 _ _ own7 hi hle7 ⟨gn, oa, ow, oo, op, od, tg, b1, b2, vW, vO, vP, W, O, Ps, bl, gt, egn, rfl, rfl, hd7, how, hW, hoo, hO, hop, hP, hR, hWl, hOl, hPl⟩ S7
    simp only [List.cons_append, List.nil_append] at S7
    have lW := hW.length
    have lO := hO.length
    have lP := hP.length
    (with_reducible refine OpAll.all ?_; intro _ _; refine r_store ‹_› ‹_› (by kxw_int) ?_; intro _ _; refine x_cons ?_; refine x_expr ‹_› ?_ (by with_unfolding_all rfl); refine MethodCall_ ?_ (by with_unfolding_all rfl); refine r_loc ‹_› ‹_› (by kun_count) ?_; refine r_method (by kso_lit) PySem.F.slot_list_append PySem.F.type_list_append ?_; refine r_cwbB ?_ (by with_unfolding_all rfl) (by with_unfolding_all rfl); refine args_cons ?_ (by with_unfolding_all rfl); refine wpAny_BinOp ?_; refine List_ ?_; refine args_cons ?_ (by with_unfolding_all rfl); refine wpAny_BinOp ?_; refine r_int ?_; refine r_loc ‹_› ‹_› (by kun_count) ?_; refine r_add ?_; refine args_nil ?_; refine r_intsI ‹_› (by apply IntsAre.cons; kda_here) (Nat.le_of_ble_eq_true rfl) ?_; intro _ _ _ _ _ _; refine wpAny_BinOp ?_; refine r_int ?_; refine Call_ ?_ (by with_unfolding_all rfl); refine r_glob ‹_› ‹_› ‹_› (by lks_lit) g_law_draw ?_; refine r_cwA ‹_› kp_532 ?_ (by with_unfolding_all rfl) (by with_unfolding_all rfl); refine args_cons ?_ (by with_unfolding_all rfl); refine r_loc ‹_› ‹_› (by kun_count) ?_; refine args_cons ?_ (by with_unfolding_all rfl); refine r_int ?_; refine args_nil ?_; refine r_le ‹_› (by rfl) ?_)
    refine r_callL (W := [(d, od)]) (rest := (wa, ow) :: (oa, oo) :: (pa, op) :: own7) (by assumption) (draw2 B hd7 (many := 2) (by decide)) R (by decide) ?_
    rintro _ h8 tk8 g8 _ hle8 S8 ⟨k8, t8, o8, rfl, hk8, rfl, hd8⟩
    simp only [List.cons_append, List.nil_append] at S8
    (with_reducible refine r_add ?_; refine r_mul1 ‹_› (by kso_lit) (by kpa_letter) ?_; intro _ _ _ _ _ _; refine args_nil ?_)
    rename_i r9 h9 g9 hle9 hr9 S9
    refine r_append (S := S9) how (by kxw_text) (by rw [lW, sizeLine_eq]; (first | lia | omega)) ?_
    intro h10 ow10 how10 S10
    have hl79 : Le g7 g9 := by kse_has
    (with_reducible refine x_next ?_; refine x_cons ?_; refine x_assign ?_ (by with_unfolding_all rfl))
    refine x_midV (fun v s' => Ex5 fun (bb : Bool) h' tk' od' g' => An6 (v = .bool bb) (s' = ⟨h', gs, dr, tk', os⟩) (Le g9 g') (St (ent G H g [(d, o)]) ["deck", "words", "others", "pairs", "gone", "nth", "is_gone"] L g' h' [some (.ref d), some (.ref wa), some (.ref oa), some (.ref pa), some (.int gn tg), some (.int i t), b2] ((d, od') :: (wa, ow10) :: (oa, oo) :: (pa, op) :: own7)) (DeckO od') ((bb = true → gt.length < 3))) ?_ ?_
    · (with_reducible refine OpAll.all ?_; intro _ _; refine BoolOp_and ?_; refine wpAny_Compare1 ?_ (by with_unfolding_all rfl); refine Call_ ?_ (by with_unfolding_all rfl); refine r_glob ‹_› ‹_› ‹_› (by lks_lit) g_law_draw ?_; refine r_cwA ‹_› kp_532 ?_ (by with_unfolding_all rfl) (by with_unfolding_all rfl); refine args_cons ?_ (by with_unfolding_all rfl); refine r_loc ‹_› ‹_› (by kun_count) ?_; refine args_cons ?_ (by with_unfolding_all rfl); refine r_int ?_; refine args_nil ?_; refine r_le ‹_› (by rfl) ?_)
      refine r_callL (W := [(d, o8)]) (rest := (wa, ow10) :: (oa, oo) :: (pa, op) :: own7) (by assumption) (draw2 B hd8 (many := 3) (by decide)) R (by decide) ?_
      rintro _ h11 tk11 g11 _ hle11 S11 ⟨k11, t11, o11, rfl, hk11, rfl, hd11⟩
      simp only [List.cons_append, List.nil_append] at S11
      (with_reducible refine r_int ?_; refine r_eq ?_; refine wpAny_truthy_bool ?_; refine if_dec ?_ ?_ <;> intro _; refine BoolOp_one ?_; refine wpAny_Compare1 ?_ (by with_unfolding_all rfl); refine r_loc ‹_› ‹_› (by kun_count) ?_; refine r_int ?_; refine r_lt ?_; refine OpQ.out ‹_› ?_; rotate_left; refine OpQ.out ‹_› ?_; rotate_left)
      · exact ⟨_, h11, _, o11, g11, rfl, rfl, hle11, S11, hd11, fun hb => by have := of_decide_eq_true hb; (first | lia | omega)⟩
      · rename_i hne
        exact ⟨_, h11, _, o11, g11, rfl, rfl, hle11, S11, hd11, fun hb => absurd (of_decide_eq_true hb) hne⟩
    rintro _ _ ⟨bb, h11, tk11, o11, g11, rfl, rfl, hle11, S11, hd11, hbb⟩
    have hl711 := hl79.trans hle11
    have hr11 := hr9.le hle11
    have how : OwW i (List.replicate (2 + k8).toNat (97 + (i : Int))) := ⟨(2 + k8).toNat, by (first | lia | omega), by (first | lia | omega), rfl⟩
    have hW' : LsAre WdAt g11 (vW ++ [.ref r9]) (W ++ [List.replicate (2 + k8).toNat (97 + (i : Int))]) := (hW.wdle hl711).app (.one ⟨r9, rfl, hr11⟩)
    have hown : ∀ j l, (W ++ [List.replicate (2 + k8).toNat (97 + (i : Int))])[j]? = some l → OwW j l := fun j l hj => by
      by_cases hjl : j < W.length
      · exact hR.own j l (by rwa [List.getElem?_append_left hjl] at hj)
      · rw [List.getElem?_append_right (by (first | lia | omega))] at hj
        have hj0 : j - W.length = 0 := by
          cases hz0 : j - W.length with
          | zero => rfl
          | succ q => rw [hz0] at hj; simp at hj
        rw [hj0] at hj
        simp only [List.getElem?_cons_zero, Option.some.injEq] at hj
        subst hj
        rw [show j = i by (first | lia | omega)]
        exact how
    cases bb
    · (with_reducible refine r_store ‹_› ‹_› (by kxw_int) ?_; intro _ _; refine x_next ?_; refine x_cons ?_; refine x_assign ?_ (by with_unfolding_all rfl); refine IfExp_ ?_; refine wpAny_isTrue_value ?_ (by with_unfolding_all rfl); refine r_loc ‹_› ‹_› (by kun_count) ?_; refine wpAny_truthy_bool ?_; refine if_f ?_; refine r_int ?_; refine r_store ‹_› ‹_› (by kxw_int) ?_; intro _ _; refine x_next ?_; refine x_cons ?_; refine wpAny_If ?_; refine wpAny_isTrue_Not ?_; refine wpAny_isTrue_value ?_ (by with_unfolding_all rfl); refine r_loc ‹_› ‹_› (by kun_count) ?_; refine wpAny_truthy_bool ?_; refine if_nf ?_; refine x_cons ?_; refine x_assign ?_ (by with_unfolding_all rfl); refine wpAny_BinOp ?_; refine r_loc ‹_› ‹_› (by kun_count) ?_; refine Call_ ?_ (by with_unfolding_all rfl); refine r_glob ‹_› ‹_› ‹_› (by lks_lit) g_law_fresh ?_; refine r_cwA ‹_› kp_537 ?_ (by with_unfolding_all rfl) (by with_unfolding_all rfl); refine args_cons ?_ (by with_unfolding_all rfl); refine r_loc ‹_› ‹_› (by kun_count) ?_; refine args_nil ?_; refine r_le ‹_› (by rfl) ?_)
      refine r_callL (W := [(d, o11)]) (rest := (wa, ow10) :: (oa, oo) :: (pa, op) :: own7) (by assumption) (fresh_spec B hd11) R (by decide) ?_
      rintro _ h12 tk12 g12 _ hle12 S12 ⟨rf, vf, F, o12, rfl, hrf, hF, hFr, hF3, rfl, hd12⟩
      simp only [List.cons_append, List.nil_append] at S12
      have lF := hF.length
      skip
      refine r_addL (S := S12) (S12.lst (by lks_lit) hoo) (hrf.le S12.le) (by (first | lia | omega)) ?_
      intro oa2 h13 oo2 hoo2 S13
      have hvi : (vW ++ [Value.ref r9])[((i : Nat) : Int).toNat]? = some (.ref r9) := by
        rw [Int.toNat_natCast, List.getElem?_append_right (by (first | lia | omega)), lW, hWl, Nat.sub_self]; rfl
      have lO2 : (vO ++ vf).length ≤ 4 * i + 3 := by rw [List.length_append]; (first | lia | omega)
      (with_reducible refine r_store ‹_› ‹_› (by kxw_int) ?_; intro _ _; refine x_next ?_; refine x_cons ?_; refine x_expr ‹_› ?_ (by with_unfolding_all rfl); refine MethodCall_ ?_ (by with_unfolding_all rfl); refine r_loc ‹_› ‹_› (by kun_count) ?_; refine r_method (by kso_lit) PySem.F.slot_list_append PySem.F.type_list_append ?_; refine r_cwbB ?_ (by with_unfolding_all rfl) (by with_unfolding_all rfl); refine args_cons ?_ (by with_unfolding_all rfl); refine List_ ?_; refine args_cons ?_ (by with_unfolding_all rfl); refine r_loc ‹_› ‹_› (by kun_count) ?_; refine args_cons ?_ (by with_unfolding_all rfl); refine Call_ ?_ (by with_unfolding_all rfl); refine r_glob ‹_› ‹_› ‹_› (by lks_lit) g_len ?_; refine r_cwbA ?_ (by with_unfolding_all rfl) (by with_unfolding_all rfl); refine args_cons ?_ (by with_unfolding_all rfl); refine r_loc ‹_› ‹_› (by kun_count) ?_; refine args_nil ?_; refine r_len (by kso_lit) (by kpa_letter) ?_; refine args_nil ?_; refine r_intsI ‹_› (by apply IntsAre.cons; kda_here) (Nat.le_of_ble_eq_true rfl) ?_; intro _ _ _ _ _ _; refine args_nil ?_)
      rename_i rp hpx gp hlep hrp Sp
      refine r_append (S := Sp) hop (by kxw_text) (by rw [lP, sizeLine_eq]; (first | lia | omega)) ?_
      intro h14 op14 hop14 S14
      (with_reducible refine x_next ?_; refine x_cons ?_; refine x_expr ‹_› ?_ (by with_unfolding_all rfl); refine MethodCall_ ?_ (by with_unfolding_all rfl); refine r_loc ‹_› ‹_› (by kun_count) ?_; refine r_method (by kso_lit) PySem.F.slot_list_append PySem.F.type_list_append ?_; refine r_cwbB ?_ (by with_unfolding_all rfl) (by with_unfolding_all rfl); refine args_cons ?_ (by with_unfolding_all rfl); refine Subscript_ ?_; refine r_loc ‹_› ‹_› (by kun_count) ?_; refine r_loc ‹_› ‹_› (by kun_count) ?_; refine' r_item ?a180x1 ?a180x2 ?a180x3 ?_ ?a180x4; (case a180x4 => with_unfolding_all rfl); (case a180x1 => kso_lit); (case a180x3 => assumption); (case a180x2 => kpa_letter); refine args_nil ?_)
      refine r_append (S := by assumption) hoo2 (by kxw_text) (by rw [sizeLine_eq]; (first | lia | omega)) ?_
      intro h15 oo15 hoo15 S15
      (with_reducible refine x_next ?_; refine wpAny_execs_nil ?_; refine x_next ?_; refine wpAny_execs_nil ?_; refine OpQ.out ‹_› ?_)
      have S16 := (S15.perm (perm4w _ _ _ _ _)).sublist (List.sublist_cons_self _ _)
      have hl7p : Le g7 gp := hl711.trans (hle12.trans hlep)
      have eO : O = ofl bl := by rw [hR.o, List.append_nil]
      have eW : (wfl bl).length + gt.length = i := by rw [← hWl, hR.w, List.length_append]
      refine ⟨gp, _, _, _, [(d, o12), (wa, ow10), (oa2, oo15), (pa, op14)], rfl, hl7p, S16, 0, oa2, ow10, oo15, op14, o12, _, _, _, _, _, _, _, (O ++ F) ++ [List.replicate (2 + k8).toNat (97 + (i : Int))], Ps ++ [((i : Int), ((vO ++ vf).length : Int))], bl ++ [⟨gt, F, List.replicate (2 + k8).toNat (97 + (i : Int))⟩], [], rfl, rfl, rfl, hd12, how10, hW'.wdle (hle12.trans hlep), hoo15, ((hO.wdle hl7p).app (hF.wdle hlep)).app (.one ⟨r9, rfl, hr11.le (hle12.trans hlep)⟩), hop14, (hP.pile hl7p).app (.one ⟨rp, rfl, hrp⟩), ⟨?_, ?_, ?_, ?_, ?_, (fun l hl => by cases hl), hown⟩, ?_, ?_, ?_⟩
      · rw [wfl_snoc, hR.w]; simp
      · rw [ofl_snoc, eO]; simp
      · rw [prs_snoc, ← hR.p, ← eO]
        congr 3
        · rw [Nat.zero_add, eW]
        · rw [Nat.zero_add, List.length_append, lO, lF]
      · have := hR.few
        refine ⟨?_, by simp, by simp⟩
        simp only [List.length_append, List.length_cons, List.length_nil]
        (first | lia | omega)
      · intro x hx
        rcases List.mem_append.mp hx with hx | hx
        · exact hR.bk x hx
        · rw [List.mem_singleton.mp hx]
          exact ⟨hR.few.2.1, hF3, hFr⟩
      · simp only [List.length_append, List.length_cons, List.length_nil]; (first | lia | omega)
      · simp only [List.length_append, List.length_cons, List.length_nil]; (first | lia | omega)
      · simp only [List.length_append, List.length_cons, List.length_nil]; (first | lia | omega)
    · (with_reducible refine r_store ‹_› ‹_› (by kxw_int) ?_; intro _ _; refine x_next ?_; refine x_cons ?_; refine x_assign ?_ (by with_unfolding_all rfl); refine IfExp_ ?_; refine wpAny_isTrue_value ?_ (by with_unfolding_all rfl); refine r_loc ‹_› ‹_› (by kun_count) ?_; refine wpAny_truthy_bool ?_; refine if_t ?_; refine wpAny_BinOp ?_; refine r_loc ‹_› ‹_› (by kun_count) ?_; refine r_int ?_; refine r_add ?_; refine r_store ‹_› ‹_› (by kxw_int) ?_; intro _ _; refine x_next ?_; refine x_cons ?_; refine wpAny_If ?_; refine wpAny_isTrue_Not ?_; refine wpAny_isTrue_value ?_ (by with_unfolding_all rfl); refine r_loc ‹_› ‹_› (by kun_count) ?_; refine wpAny_truthy_bool ?_; refine if_nt ?_; refine wpAny_execs_nil ?_; refine x_next ?_; refine wpAny_execs_nil ?_; refine OpQ.out ‹_› ?_)
      refine ⟨g11, _, _, _, [(d, o11), (wa, ow10), (oa, oo), (pa, op)], rfl, hl711, by assumption, gn + 1, oa, ow10, oo, op, o11, _, _, _, _, vO, vP, _, O, Ps, bl, gt ++ [List.replicate (2 + k8).toNat (97 + (i : Int))], ?_, rfl, rfl, hd11, how10, hW', hoo, hO.wdle hl711, hop, hP.pile hl711, ⟨?_, hR.o, hR.p, ?_, hR.bk, hR.fts, hown⟩, ?_, by (first | lia | omega), by (first | lia | omega)⟩
      · rw [List.length_append, egn]; rfl
      · rw [hR.w, List.append_assoc]
      · have := hbb rfl
        simp only [List.length_append, List.length_cons, List.length_nil]
        (first | lia | omega)
      · simp only [List.length_append, List.length_cons, List.length_nil]
        (first | lia | omega)
  · rintro g7 h7 tk7 _ _ hle7 S7 ⟨gn, oa, ow, oo, op, od, tg, b1, b2, vW, vO, vP, W, O, Ps, bl, gt, egn, rfl, rfl, hd7, how, hW, hoo, hO, hop, hP, hR, hWl, hOl, hPl⟩
    have lO := hO.length
    (with_reducible refine x_next ?_; refine x_cons ?_; refine wpAny_Return_some ?_; refine Tuple_ ?_; refine args_cons ?_ (by with_unfolding_all rfl); refine r_loc ‹_› ‹_› (by kun_count) ?_; refine args_cons ?_ (by with_unfolding_all rfl); refine wpAny_BinOp ?_; refine r_loc ‹_› ‹_› (by kun_count) ?_; refine Call_ ?_ (by with_unfolding_all rfl); refine r_glob ‹_› ‹_› ‹_› (by lks_lit) g_law_fresh ?_; refine r_cwA ‹_› kp_537 ?_ (by with_unfolding_all rfl) (by with_unfolding_all rfl); refine args_cons ?_ (by with_unfolding_all rfl); refine r_loc ‹_› ‹_› (by kun_count) ?_; refine args_nil ?_; refine r_le ‹_› (by rfl) ?_)
    refine r_callL (W := [(d, od)]) (rest := [(wa, ow), (oa, oo), (pa, op)]) (by assumption) (fresh_spec B hd7) R (by decide) ?_
    rintro _ h8 tk8 g8 _ hle8 S8 ⟨rf, vf, F, o8, rfl, hrf, hF, hFr, hF3, rfl, hd8⟩
    simp only [List.cons_append, List.nil_append] at S8
    have lF := hF.length
    skip
    refine r_addLm (S := S8) (S8.lst (by lks_lit) hoo) (hrf.le S8.le) (by (first | lia | omega)) ?_
    intro oa2 h9 g9 hle9 hoa2 S9
    (with_reducible refine args_cons ?_ (by with_unfolding_all rfl); refine r_loc ‹_› ‹_› (by kun_count) ?_; refine args_nil ?_)
    refine r_tupI (S := by assumption) ?_
    intro T10 h10 g10 hle10 hT10 S10
    (with_reducible refine x_ret ?_; refine OpQ.out ‹_› ?_)
    obtain ⟨g11, k1, k2, S11⟩ := (S10.perm (.swap _ _ _)).freezeW (fun b hb => by
      have hb' : b = d := by simpa [ent] using hb
      rw [hb']; exact .head _)
    obtain ⟨g12, k3, k4, S12⟩ := (S11.perm (perm3 _ _ _)).freezeW (fun b hb => by
      have hb' : b = d := by simpa [ent] using hb
      rw [hb']; exact .tail _ (.head _))
    have hl : Le g7 g12 := hle8.trans (hle9.trans (hle10.trans (k1.trans k3)))
    refine x_end (W := [(d, o8)]) (rest := [(oa, oo)]) S12 (.swap _ _ _) ⟨T10, wa, oa2, pa, vW, _, vP, W, O ++ F, Ps, bl, gt, F, o8, rfl, hT10.le (k1.trans k3), ⟨ow, k3 _ _ k2, how⟩, hW.wdle hl, hoa2.le (hle10.trans (k1.trans k3)), (hO.wdle hl).app (hF.wdle (hle9.trans (hle10.trans (k1.trans k3)))), ⟨op, k4, hop⟩, hP.pile hl, ⟨hR.w, by rw [hR.o, List.append_nil], hR.p, ⟨hR.few.1, hR.few.2.1, hF3⟩, hR.bk, hFr, hR.own⟩, rfl, hd8⟩
end
theorem ints_at : ∀ {us : List Value} {ms : List Int} {i : Nat} {v : Value}, IntsAre us ms → us[i]? = some v → ∃ k t, v = .int k t ∧ ms[i]? = some k
  | _, _, i, v, .nil, h => by simp at h
  | _, _, 0, v, .cons n t _, h => ⟨n, t, by simpa using h.symm, rfl⟩
  | _, _, i + 1, v, .cons n t r, h => ints_at (i := i) r (by simpa using h)
abbrev nmL : List Str := ["script", "deck", "words", "others", "pairs", "old", "firsts", "new", "ends", "head", "tail", "buffer", "start", "marks", "nth", "one", "other", "marker", "letter", "text", "codes", "is_put"]
abbrev vl (sl d rw ro rp ra rb rc rd rh rt b : Addr) (s : Int) (ts : Tok) (ma : Addr) (r : List (Option Value)) : List (Option Value) := some (.ref sl) :: some (.ref d) :: some (.ref rw) :: some (.ref ro) :: some (.ref rp) :: some (.ref ra) :: some (.ref rb) :: some (.ref rc) :: some (.ref rd) :: some (.ref rh) :: some (.ref rt) :: some (.ref b) :: some (.int s ts) :: some (.ref ma) :: r
theorem PiAt.lst {g : Heap} {v : Value} {p : Int × Int} (h : PiAt g v p) : ∃ r t u, v = .ref r ∧ LstAt g r [.int p.1 t, .int p.2 u] := by
  obtain ⟨r, rfl, h⟩ := h
  obtain ⟨vs, h1, h2⟩ := h.lst
  cases h2 with
  | cons a t h2 => cases h2 with
    | cons b u h2 => cases h2 with
      | nil => exact ⟨r, t, u, rfl, h1⟩
theorem turn_facts {g : Heap} {T6 T7 ra rc : Addr} {t1 t2 : Tok} {v : Value} {i : Nat} {s : Int} {hdl old new tal : List Int} {rows : List Rw} (h6 : TupAt g T6 [.int 1 t1, .ref ra, .ref rc]) (h7 : TupAt g T7 [.int 2 t2, .ref rc, .ref ra]) (ho : IntsAt g ra old) (hn : IntsAt g rc new)
    (f1 : TF s hdl old new tal rows (·.b) (·.a)) (f2 : TF s hdl new old tal rows (·.a) (·.b)) (hv : ([.ref T6, .ref T7] : List Value)[i]? = some v) :
    i < 2 ∧ ∃ T rx ry A B tt, v = .ref T ∧ TupAt g T [.int ((i + 1 : Nat) : Int) tt, .ref rx, .ref ry] ∧ IntsAt g rx A ∧ IntsAt g ry B ∧ TF s hdl A B tal rows (curP i) (curP (i + 1)) ∧ curT old new i = A ∧ curT old new (i + 1) = B ∧ ∀ x t u (r : Rw), ∃ tk, ([.ref x, .int r.a t, .int r.b u] : List Value)[((i + 1 : Nat) : Int).toNat]? = some (.int (curP (i + 1) r) tk) := by
  match i, hv with
  | 0, hv =>
    simp at hv
    exact ⟨by decide, T6, ra, rc, old, new, t1, hv.symm, h6, ho, hn, f1, rfl, rfl, fun x t u r => ⟨t, rfl⟩⟩
  | 1, hv =>
    simp at hv
    exact ⟨by decide, T7, rc, ra, new, old, t2, hv.symm, h7, hn, ho, f2, rfl, rfl, fun x t u r => ⟨u, rfl⟩⟩
  | n + 2, hv => simp at hv
theorem A.tw13505018483675510766 : True := trivial
theorem A.tw8627900308243942073 : True := trivial
theorem A.tw2846676160279990293 : True := trivial
theorem A.tw15353610703277637174 : True := trivial
theorem A.tw117206164609102789 : True := trivial
theorem A.tw4469062209809527296 : True := trivial
theorem A.tw1271620941395032083 : True := trivial
theorem A.tw15927242249926865035 : True := trivial
theorem A.tw1740639744480888156 : True := trivial
theorem A.tw12132298288281748947 : True := trivial
theorem A.tw8268692081168693369 : True := trivial
theorem A.tw3827510880450631956 : True := trivial
theorem A.tw13699956607400889491 : True := trivial
theorem A.tw11257937862236192177 : True := trivial
theorem A.tw876693905099535578 : True := trivial
theorem A.tw10901983248858414004 : True := trivial
theorem A.tw6805983509398822599 : True := trivial
theorem A.tw8107739916254605040 : True := trivial
theorem A.tw16812395977264597804 : True := trivial
theorem A.tw11695970862412734310 : True := trivial
theorem A.tw4995154887116759528 : True := trivial
theorem A.tw1074485552284268750 : True := trivial
theorem A.tw1728546883027405083 : True := trivial
theorem A.tw2990296663331124662 : True := trivial
theorem A.tw5100197160733989415 : True := trivial
theorem A.tw13358197449699821863 : True := trivial
theorem A.tw1711519048115537211 : True := trivial
theorem A.tw3241095689136103988 : True := trivial
theorem A.tw8739021578403187269 : True := trivial
theorem A.tw2894168386961501576 : True := trivial
theorem A.tw5607075626853525049 : True := trivial
theorem A.tw13302363273671260167 : True := trivial
theorem A.tw3427252344199117746 : True := trivial
theorem A.tw14705889260992872993 : True := trivial
theorem A.tw15181888531085275548 : True := trivial
theorem A.tw6550055961528863725 : True := trivial
theorem A.tw5316850456702083212 : True := trivial
theorem A.tw12232579637511440035 : True := trivial
theorem A.tw5525506619184209308 : True := trivial
theorem A.tw10721826480789893435 : True := trivial
theorem A.tw10778058994300049312 : True := trivial
theorem A.tw12158403248636069845 : True := trivial
theorem A.tw11548965140843021987 : True := trivial
theorem A.tw17114407585722702516 : True := trivial
theorem A.tw13713473087459817012 : True := trivial
theorem A.tw12427154826966451747 : True := trivial
theorem A.tw17078412658248649703 : True := trivial
theorem A.tw15303074500943646729 : True := trivial
theorem A.tw6426530911337749557 : True := trivial
theorem A.tw1890348984136609126 : True := trivial
theorem A.tw8025421187048091372 : True := trivial
theorem A.tw10464261132558860693 : True := trivial
theorem A.tw17989046979602641947 : True := trivial
theorem A.tw6414601312885482961 : True := trivial
theorem A.tw1158314378726466149 : True := trivial
theorem A.tw2986620743576821348 : True := trivial
theorem A.tw6448185719210057764 : True := trivial
theorem A.tw7273123470285882862 : True := trivial
theorem A.tw113856523858392798 : True := trivial
theorem A.tw15178048850594536657 : True := trivial
theorem A.tw13537463591308599714 : True := trivial
theorem A.tw8258908346934067610 : True := trivial
theorem A.tw18366248523328362812 : True := trivial
theorem A.tw16892929051993037992 : True := trivial
theorem A.tw16229667660273776000 : True := trivial
theorem A.tw13778750117072980034 : True := trivial
theorem A.tw18342707657166861291 : True := trivial
theorem A.tw4324975020755613165 : True := trivial
theorem A.tw668457866403310422 : True := trivial
theorem A.tw7981049492782428448 : True := trivial
theorem A.tw16928538612152250864 : True := trivial
theorem A.tw15452647047682044880 : True := trivial
theorem A.tw13793731102141371229 : True := trivial
theorem A.tw11015472347083230262 : True := trivial
theorem A.tw16111458794243136383 : True := trivial
theorem A.tw4940322364659085442 : True := trivial
theorem A.tw11433832083034314483 : True := trivial
theorem A.tw7713977611902121948 : True := trivial
theorem A.tw2498218675769655482 : True := trivial
theorem A.tw1394220340806483022 : True := trivial
theorem A.tw7443338894325975944 : True := trivial
theorem A.tw16722388022564052092 : True := trivial
theorem A.tw11528415690378899637 : True := trivial
theorem A.tw3501166653491444838 : True := trivial
theorem A.tw12325721819787044348 : True := trivial
theorem A.tw8763866945861171675 : True := trivial
theorem A.tw16416462768213931728 : True := trivial
theorem A.tw9661235906119300052 : True := trivial
theorem A.tw6475647610949480167 : True := trivial
theorem A.tw15481780291981516348 : True := trivial
theorem A.tw15393187782234676106 : True := trivial
theorem A.tw14422174058144415194 : True := trivial
theorem A.tw9489363944639135692 : True := trivial
theorem A.tw18183724183139090585 : True := trivial
theorem A.tw7207417240860743663 : True := trivial
theorem A.tw5732411481989589454 : True := trivial
theorem A.tw5740182093048826336 : True := trivial
theorem A.tw2030115460836228336 : True := trivial
theorem A.tw3756379168132043198 : True := trivial
theorem A.tw3693375145720758667 : True := trivial
theorem A.tw4986024064371678857 : True := trivial
theorem A.tw2994093271542915424 : True := trivial
theorem A.tw4025403404575532801 : True := trivial
theorem A.tw917891835049747375 : True := trivial
theorem A.tw14087137732515809536 : True := trivial
theorem A.tw15766315853903485041 : True := trivial
theorem A.tw6632345203002116351 : True := trivial
theorem A.tw9728843627108605995 : True := trivial
theorem A.tw965040345084606948 : True := trivial
theorem A.tw5941893537495626993 : True := trivial
theorem A.tw7089000837978701949 : True := trivial
theorem A.tw5294602339387276445 : True := trivial
theorem A.tw8510242198634029530 : True := trivial
theorem A.tw1644830645247699362 : True := trivial
theorem A.tw17637520544956895164 : True := trivial
theorem A.tw1995052235986895560 : True := trivial
theorem A.tw14433873123245215543 : True := trivial
theorem A.tw17007070484686770688 : True := trivial
theorem A.tw8416890267550235459 : True := trivial
theorem A.tw7875639981601895420 : True := trivial
theorem A.tw322010221257359560 : True := trivial
theorem A.tw8887591926954186818 : True := trivial
theorem A.tw4495097246209251437 : True := trivial
theorem A.tw134646261756989039 : True := trivial
theorem A.tw4457026362099579043 : True := trivial
theorem A.tw1701950017690343762 : True := trivial
theorem A.tw11281133222697004258 : True := trivial
theorem A.tw10054515746485545695 : True := trivial
theorem A.tw3525185211849331285 : True := trivial
theorem A.tw9851222564256179563 : True := trivial
theorem A.tw17582863806713053146 : True := trivial
theorem A.tw5362117252743699964 : True := trivial
theorem A.tw6833889667460942794 : True := trivial
theorem A.tw18060508965523648178 : True := trivial
theorem A.tw2157620221401762600 : True := trivial
theorem A.tw12465477987476379550 : True := trivial
theorem A.tw2902257238310322662 : True := trivial
theorem A.tw6468940820060667122 : True := trivial
theorem A.tw11258782310880417120 : True := trivial
theorem A.tw5313523192416160052 : True := trivial
theorem A.tw2821660339878627438 : True := trivial
theorem A.tw9052406537778684019 : True := trivial
theorem A.tw13872578380606020597 : True := trivial
theorem A.tw13864539485622963178 : True := trivial
theorem A.tw15859110339368393972 : True := trivial
theorem A.tw10197097089835379856 : True := trivial
theorem A.tw14337876324409910162 : True := trivial
theorem A.tw3315877299916700816 : True := trivial
theorem A.tw1978263028780728743 : True := trivial
theorem A.tw4314649323627783284 : True := trivial
theorem A.tw6451249835200843491 : True := trivial
theorem A.tw10699875410250872069 : True := trivial
theorem A.tw5141753246339041141 : True := trivial
theorem A.tw10207993365563939225 : True := trivial
theorem A.tw14015258012782647147 : True := trivial
theorem A.tw340161975755724998 : True := trivial
theorem A.tw13861101173324344108 : True := trivial
theorem A.tw7422551537154267925 : True := trivial
theorem A.tw11000814773589610604 : True := trivial
theorem A.tw9924480856406509962 : True := trivial
theorem A.tw16700816230120442408 : True := trivial
theorem A.tw16029876854807162041 : True := trivial
theorem A.tw10947257748996816584 : True := trivial
theorem A.tw3276922788982941814 : True := trivial
theorem A.tw14210864102700952422 : True := trivial
theorem A.tw11671592059154401223 : True := trivial
theorem A.tw1597903915225667921 : True := trivial
theorem A.tw11362764593936253274 : True := trivial
theorem A.tw14293655213214525087 : True := trivial
theorem A.tw5913786676591483371 : True := trivial
theorem A.tw4363507154648135753 : True := trivial
theorem A.tw8991393393144275178 : True := trivial
theorem A.tw8932079608749711352 : True := trivial
theorem A.tw5961628499140956502 : True := trivial
theorem A.tw4942722097312869221 : True := trivial
theorem A.tw14516451754878594844 : True := trivial
theorem A.tw9728050766246559140 : True := trivial
theorem A.tw4578268429168223704 : True := trivial
theorem A.tw15507815939212692218 : True := trivial
theorem A.tw11954576275216591812 : True := trivial
theorem A.tw12893078980488640160 : True := trivial
theorem A.tw11243315551754283482 : True := trivial
theorem A.tw5596661095637165943 : True := trivial
theorem A.tw18251455610491598297 : True := trivial
theorem A.tw15824228466421876341 : True := trivial
theorem A.tw966069312818546542 : True := trivial
theorem A.tw10196773732981162440 : True := trivial
theorem A.tw12889269496251464945 : True := trivial
theorem A.tw7767305879533047990 : True := trivial
theorem A.tw14742132386696888150 : True := trivial
theorem A.tw15170479923799075306 : True := trivial
theorem A.tw6802202167095752631 : True := trivial
theorem A.tw892802988501306937 : True := trivial
theorem A.tw329537529577484556 : True := trivial
theorem A.tw1065936620178687560 : True := trivial
theorem A.tw8836011190742962181 : True := trivial
theorem A.tw16949904339927074615 : True := trivial
theorem A.tw14377531038707566188 : True := trivial
theorem A.tw546252540664836203 : True := trivial
theorem A.tw16019834809333034135 : True := trivial
theorem A.tw11384763724287260210 : True := trivial
theorem A.tw13775239090421908914 : True := trivial
theorem A.tw1558536377343616890 : True := trivial
theorem A.tw2302171872704932423 : True := trivial
theorem A.tw6502480036502485981 : True := trivial
theorem A.tw11787405041974079658 : True := trivial
theorem A.tw2121679836130591182 : True := trivial
theorem A.tw4601626554470748678 : True := trivial
theorem A.tw5063265584592608465 : True := trivial
theorem A.tw14598206942083639578 : True := trivial
theorem A.tw1540728905782975835 : True := trivial
theorem A.tw12943326520175269150 : True := trivial
theorem A.tw13281012944092047066 : True := trivial
theorem A.tw11825325038941661750 : True := trivial
theorem A.tw11762048720342236388 : True := trivial
theorem A.tw10782379631193864376 : True := trivial
theorem A.tw4258787409042568739 : True := trivial
theorem A.tw3531853567894826188 : True := trivial
theorem A.tw16028929044088068608 : True := trivial
theorem A.tw230719643355981704 : True := trivial
theorem A.tw10121268718762244251 : True := trivial
theorem A.tw15506024562825930269 : True := trivial
theorem A.tw17254371600449239856 : True := trivial
theorem A.tw1989584958251935626 : True := trivial
theorem A.tw2321488004896324090 : True := trivial
theorem A.tw13889605495995899751 : True := trivial
theorem A.tw13521785925811535246 : True := trivial
theorem A.tw12742595397925445583 : True := trivial
theorem A.tw12718378577592398934 : True := trivial
theorem A.tw10030969785850798338 : True := trivial
theorem A.tw4572620600766575848 : True := trivial
theorem A.tw15271744827103933961 : True := trivial
theorem A.tw3144026583849049972 : True := trivial
theorem A.tw3001089778539913221 : True := trivial
theorem A.tw41467161542082443 : True := trivial
theorem A.tw16321642426560474979 : True := trivial
theorem A.tw2033709361202529910 : True := trivial
theorem A.tw13134376616442799597 : True := trivial
theorem A.tw14741808364667031746 : True := trivial
theorem A.tw1114024388322506266 : True := trivial
theorem A.tw12687672070917233148 : True := trivial
theorem A.tw15107479043470777280 : True := trivial
theorem A.tw3309490218115970346 : True := trivial
theorem A.tw746637003862840903 : True := trivial
theorem A.tw9145443120284020226 : True := trivial
theorem A.tw17185777178570113221 : True := trivial
theorem A.tw171910799215416377 : True := trivial
theorem A.tw17411698529081564730 : True := trivial
theorem A.tw9974519379101544631 : True := trivial
theorem A.tw2453432458015146504 : True := trivial
theorem A.tw10886064689946728755 : True := trivial
theorem A.tw2068095952898283249 : True := trivial
theorem A.tw955040287796916085 : True := trivial
theorem A.tw3034898434740506213 : True := trivial
theorem A.tw12966225125333578685 : True := trivial
theorem A.tw2403467864963845073 : True := trivial
theorem A.tw10423431125507314237 : True := trivial
theorem A.tw14154834401945157658 : True := trivial
theorem A.tw1524894922436691342 : True := trivial
theorem A.tw4283187160794679355 : True := trivial
theorem A.tw888906988712513282 : True := trivial
theorem A.tw1618849812798959209 : True := trivial
theorem A.tw16422375273577659187 : True := trivial
theorem A.tw15364495290004752866 : True := trivial
theorem A.tw8849408868955199120 : True := trivial
theorem A.tw2078740131907047231 : True := trivial
theorem A.tw17056287566603356427 : True := trivial
theorem A.tw15924384377563124195 : True := trivial
theorem A.tw12242306022269557986 : True := trivial
theorem A.tw970233873283155555 : True := trivial
theorem A.tw15198502237903285606 : True := trivial
theorem A.tw11467812001282863317 : True := trivial
theorem A.tw16901909952716669009 : True := trivial
theorem A.tw16853338072351604013 : True := trivial
theorem A.tw4241463567310230257 : True := trivial
theorem A.tw8110313385410489805 : True := trivial
theorem A.tw14284554016526456933 : True := trivial
theorem A.tw9596116689226838689 : True := trivial
theorem A.tw11189993024330764420 : True := trivial
theorem A.tw10152246154050322472 : True := trivial
theorem A.tw5335966972816487573 : True := trivial
theorem A.tw10082186590243426278 : True := trivial
theorem A.tw17006504522219559285 : True := trivial
theorem A.tw14297975816295608904 : True := trivial
theorem A.tw10941186649544257788 : True := trivial
theorem A.tw13386690434208254547 : True := trivial
theorem A.tw12427603787274352968 : True := trivial
theorem A.tw12131059939518088305 : True := trivial
theorem A.tw148890740115094477 : True := trivial
theorem A.tw13853701808809393263 : True := trivial
theorem A.tw11091090640047338270 : True := trivial
theorem A.tw15235753295579347311 : True := trivial
theorem A.tw1869691848869325135 : True := trivial
theorem A.tw15342614390913295647 : True := trivial
theorem A.tw9847416591663892895 : True := trivial
theorem A.tw17708045373672667275 : True := trivial
theorem A.tw578725537813546053 : True := trivial
theorem A.tw7019732296079481987 : True := trivial
theorem A.tw17261256947298579399 : True := trivial
theorem A.tw6713707114120337353 : True := trivial
theorem A.tw8431199786579120263 : True := trivial
theorem A.tw15958068387702575520 : True := trivial
theorem A.tw17430342064738868697 : True := trivial
theorem A.tw16630346918049151353 : True := trivial
theorem A.tw10966744222073379925 : True := trivial
theorem A.tw9194727271225694402 : True := trivial
theorem A.tw17279437854136511551 : True := trivial
theorem A.tw14022718827778387872 : True := trivial
theorem A.tw15541677554180571671 : True := trivial
theorem A.tw9533663550961710827 : True := trivial
theorem A.tw808611013826683564 : True := trivial
theorem A.tw11786510399890765612 : True := trivial
theorem A.tw12759292786942606714 : True := trivial
theorem A.tw8051648730566024701 : True := trivial
theorem A.tw15703972413860346071 : True := trivial
theorem A.tw5021738518795588109 : True := trivial
theorem A.tw5232294631958126339 : True := trivial
theorem A.tw2343703721601032456 : True := trivial
theorem A.tw14795539740201543242 : True := trivial
theorem A.tw15909743287994251183 : True := trivial
theorem A.tw332227564094166473 : True := trivial
theorem A.tw11620799824626790962 : True := trivial
theorem A.tw1544815690887323754 : True := trivial
theorem A.tw5342078207762976328 : True := trivial
theorem A.tw5491272723243818238 : True := trivial
theorem A.tw357549740246314947 : True := trivial
theorem A.tw14573882801119379157 : True := trivial
theorem A.tw5522922830891960191 : True := trivial
theorem A.tw9111376605082624861 : True := trivial
theorem A.tw2704465089706716795 : True := trivial
theorem A.tw8716643865611562333 : True := trivial
theorem A.tw2979960021545926798 : True := trivial
theorem A.tw7863794080286472452 : True := trivial
theorem A.tw8329462442375411232 : True := trivial
theorem A.tw6073714590368113042 : True := trivial
theorem A.tw17187560865463396386 : True := trivial
theorem A.tw15066320324275223594 : True := trivial
theorem A.tw16780720457367482748 : True := trivial
theorem A.tw5356475710577156502 : True := trivial
theorem A.tw7078276320433955005 : True := trivial
theorem A.tw397552376429756457 : True := trivial
theorem A.tw8646063402999336248 : True := trivial
theorem A.tw5721704804977933691 : True := trivial
theorem A.tw11852887670757298677 : True := trivial
theorem A.tw1229683965002552573 : True := trivial
theorem A.tw11458423111026640595 : True := trivial
theorem A.tw13716001590904515836 : True := trivial
theorem A.tw13310742590996924726 : True := trivial
theorem A.tw290793765993549792 : True := trivial
theorem A.tw7894559999750541928 : True := trivial
theorem A.tw14245635815743029402 : True := trivial
theorem A.tw1041045915675412149 : True := trivial
theorem A.tw13779074728272709502 : True := trivial
theorem A.tw5465113280888568353 : True := trivial
theorem A.tw14458194473201753207 : True := trivial
theorem A.tw4963733813414692350 : True := trivial
theorem A.tw8011758544249754476 : True := trivial
theorem A.tw14669557720211274128 : True := trivial
theorem A.tw7989747543591340807 : True := trivial
theorem A.tw8224758442933862661 : True := trivial
theorem A.tw13332559842603280762 : True := trivial
theorem A.tw6229813349293771102 : True := trivial
theorem A.tw1361641454171103028 : True := trivial
theorem A.tw12049837865488362217 : True := trivial
theorem A.tw8603494004865984291 : True := trivial
theorem A.tw11320809503829365003 : True := trivial
theorem A.tw16488007879775838487 : True := trivial
theorem A.tw10664972489193876424 : True := trivial
theorem A.tw13663073509283590788 : True := trivial
theorem A.tw11806210694099675482 : True := trivial
theorem A.tw9334774271390293124 : True := trivial
theorem A.tw17843935158440097513 : True := trivial
theorem A.tw4588919097312896568 : True := trivial
theorem A.tw18272282179467803961 : True := trivial
theorem A.tw12507005154258244781 : True := trivial
theorem A.tw13612085399911519502 : True := trivial
theorem A.tw10635995277014176919 : True := trivial
theorem A.tw1822280848354100679 : True := trivial
theorem A.tw9951386245276991990 : True := trivial
theorem A.tw16024005098661063716 : True := trivial
theorem A.tw4601982294008917340 : True := trivial
theorem A.tw7940554161576261857 : True := trivial
theorem A.tw3597207893216273645 : True := trivial
theorem A.tw10934564066474580313 : True := trivial
theorem A.tw13356349016979055336 : True := trivial
theorem A.tw5609786825092685699 : True := trivial
theorem A.tw12475027643131727008 : True := trivial
theorem A.tw13705009445313279812 : True := trivial
theorem A.tw3455362176076280055 : True := trivial
theorem A.tw7410570936850781706 : True := trivial
theorem A.tw162176119987761239 : True := trivial
theorem A.tw10253156908603326946 : True := trivial
theorem A.tw11840606308053180062 : True := trivial
theorem A.tw4676781529247952531 : True := trivial
theorem A.tw6550184109032587274 : True := trivial
theorem A.tw2691987867316795052 : True := trivial
theorem A.tw9413826230654061214 : True := trivial
theorem A.tw4913244045017263520 : True := trivial
theorem A.tw7184847402537656951 : True := trivial
theorem A.tw17198268661124911014 : True := trivial
theorem A.tw12019489972349374135 : True := trivial
theorem A.tw3152016977839566736 : True := trivial
theorem A.tw1857497897089954606 : True := trivial
theorem A.tw10153110420852926750 : True := trivial
theorem A.tw6779176893993351 : True := trivial
theorem A.tw5563343686975162558 : True := trivial
theorem A.tw463229727475673333 : True := trivial
theorem A.tw5488141152495640885 : True := trivial
theorem A.tw1385828106889595713 : True := trivial
theorem A.tw3851507347041232047 : True := trivial
theorem A.tw848846512096849957 : True := trivial
theorem A.tw3265121273768773025 : True := trivial
theorem A.tw13642742781253394154 : True := trivial
theorem A.tw5145046979489060286 : True := trivial
theorem A.tw17729939769917958669 : True := trivial
theorem A.tw2867448953391578550 : True := trivial
theorem A.tw2096321079000042813 : True := trivial
theorem A.tw8622490268207807038 : True := trivial
theorem A.tw14079619297737985768 : True := trivial
theorem A.tw11141763647842648424 : True := trivial
theorem A.tw471431776371029320 : True := trivial
theorem A.tw2650498732622703421 : True := trivial
theorem A.tw2738302439124239648 : True := trivial
theorem A.tw1113617588754079833 : True := trivial
theorem A.tw17214266957850212108 : True := trivial
theorem A.tw727218913294293990 : True := trivial
theorem A.tw565024805516441454 : True := trivial
theorem A.tw15220165724613779042 : True := trivial
theorem A.tw17774262120541857366 : True := trivial
theorem A.tw10048246083695481843 : True := trivial
theorem A.tw6075370937233167855 : True := trivial
theorem A.tw10016448217047855861 : True := trivial
theorem A.tw7555788288500834546 : True := trivial
theorem A.tw17851522674078917031 : True := trivial
theorem A.tw7302889509745325350 : True := trivial
theorem A.tw5044704966264099943 : True := trivial
theorem A.tw14932170225777500111 : True := trivial
theorem A.tw14686074749013615236 : True := trivial
theorem A.tw890882281269897351 : True := trivial
theorem A.tw17623182121723998141 : True := trivial
theorem A.tw14945935432437476554 : True := trivial
theorem A.tw8543628141363716316 : True := trivial
theorem A.tw6081536174910290610 : True := trivial
theorem A.tw13397865549863036478 : True := trivial
theorem A.tw17144881831755178340 : True := trivial
theorem A.tw14932834201408268047 : True := trivial
theorem A.tw3103876832987870754 : True := trivial
theorem A.tw6352638602532022311 : True := trivial
theorem A.tw10787138224356140933 : True := trivial
theorem A.tw5745949430111062186 : True := trivial
theorem A.tw13965079843612598301 : True := trivial
theorem A.tw11950277046930813729 : True := trivial
theorem A.tw4476387939949685900 : True := trivial
theorem A.tw517391637356942978 : True := trivial
theorem A.tw16515436210137474786 : True := trivial
theorem A.tw6148100849159943478 : True := trivial
theorem A.tw10029986409129263553 : True := trivial
theorem A.tw3870514314323647179 : True := trivial
theorem A.tw6402153540119456224 : True := trivial
theorem A.tw6679268474098692120 : True := trivial
theorem A.tw3103251571041700422 : True := trivial
theorem A.tw14790748961416948911 : True := trivial
theorem A.tw15184861372777856647 : True := trivial
theorem A.tw13329578011662183439 : True := trivial
theorem A.tw4948102273973479567 : True := trivial
theorem A.tw6429948516937556424 : True := trivial
theorem A.tw904050510047792493 : True := trivial
theorem A.tw1310802193599200633 : True := trivial
theorem A.tw17726509667999022358 : True := trivial
theorem A.tw15111863493457439586 : True := trivial
theorem A.tw5360667649723647684 : True := trivial
theorem A.tw15842805041320169664 : True := trivial
theorem A.tw13634319274872625274 : True := trivial
theorem A.tw3566977455642383461 : True := trivial
theorem A.tw9744780006082562904 : True := trivial
theorem A.tw11764716563344706947 : True := trivial
theorem A.tw5873133099403595559 : True := trivial
theorem A.tw14732702020305184979 : True := trivial
theorem A.tw18010688980458880369 : True := trivial
theorem A.tw9552583833479471719 : True := trivial
theorem A.tw729612983677015548 : True := trivial
theorem A.tw10325025573206000152 : True := trivial
theorem A.tw5322700968422311472 : True := trivial
theorem A.tw8442281297758624122 : True := trivial
theorem A.tw3776784612876290870 : True := trivial
theorem A.tw4930774908145800833 : True := trivial
theorem A.tw16404361268704588655 : True := trivial
theorem A.tw5405975800759377696 : True := trivial
theorem A.tw17828685124681892069 : True := trivial
theorem A.tw8437942734809108490 : True := trivial
theorem A.tw17445874427371686762 : True := trivial
theorem A.tw8007522310385180039 : True := trivial
theorem A.tw17252311132398872637 : True := trivial
theorem A.tw1816781321809317404 : True := trivial
theorem A.tw8781410483228315553 : True := trivial
theorem A.tw11911168570880277447 : True := trivial
theorem A.tw10706603742142423536 : True := trivial
theorem A.tw8255354749423965772 : True := trivial
theorem A.tw2021334768612723253 : True := trivial
theorem A.tw479494109890038617 : True := trivial
theorem A.tw16498883568757586868 : True := trivial
theorem A.tw8735789303597385882 : True := trivial
theorem A.tw9391394383717131108 : True := trivial
theorem A.tw6765051138570842040 : True := trivial
theorem A.tw4003538837783809199 : True := trivial
theorem A.tw13772896251816240278 : True := trivial
theorem A.tw16737173053404651633 : True := trivial
theorem A.tw6167327907100800515 : True := trivial
theorem A.tw12705115487834423570 : True := trivial
theorem A.tw15497127780042791359 : True := trivial
theorem A.tw15637563163240391280 : True := trivial
theorem A.tw7395539038209279507 : True := trivial
theorem A.tw7881348807825279512 : True := trivial
theorem A.tw14603565890626799736 : True := trivial
theorem A.tw15570443329584937765 : True := trivial
theorem A.tw2626987849787342264 : True := trivial
theorem A.tw747633730229003494 : True := trivial
theorem A.tw12100544146232882060 : True := trivial
theorem A.tw8387316399447734064 : True := trivial
theorem A.tw5558181821312234106 : True := trivial
theorem A.tw15111303947679536969 : True := trivial
theorem A.tw5661212720337484705 : True := trivial
theorem A.tw18339277285193782257 : True := trivial
theorem A.tw10990883875962077735 : True := trivial
theorem A.tw17789818160385244433 : True := trivial
theorem A.tw12749917835139898517 : True := trivial
theorem A.tw14074640794080373042 : True := trivial
theorem A.tw4672643521161816088 : True := trivial
theorem A.tw17572975399819727341 : True := trivial
theorem A.tw16914969052437096690 : True := trivial
theorem A.tw11614280353470332292 : True := trivial
theorem A.tw13598751739864981771 : True := trivial
theorem A.tw5891669589090673116 : True := trivial
theorem A.tw14213590927497897544 : True := trivial
theorem A.tw3683637174161348509 : True := trivial
theorem A.tw4708313201835116548 : True := trivial
theorem A.tw3558308169987851572 : True := trivial
theorem A.tw2219190540453417979 : True := trivial
theorem A.tw15448522643604768557 : True := trivial
theorem A.tw9587895488526826239 : True := trivial
theorem A.tw4714456759454363153 : True := trivial
theorem A.tw1515702419191719287 : True := trivial
theorem A.tw4948511072425908601 : True := trivial
theorem A.tw7784331132069836346 : True := trivial
theorem A.tw3060796935923001353 : True := trivial
theorem A.tw5976275392931216005 : True := trivial
theorem A.tw2155076996935490513 : True := trivial
theorem A.tw8796075182362581630 : True := trivial
theorem A.tw11826616398018015068 : True := trivial
theorem A.tw17793032350544852769 : True := trivial
theorem A.tw6072129302705429919 : True := trivial
theorem A.tw10827532261440953462 : True := trivial
theorem A.tw6049922238052415736 : True := trivial
theorem A.tw5376474746746286626 : True := trivial
theorem A.tw14572341046819143359 : True := trivial
theorem A.tw5426125447679386644 : True := trivial
theorem A.tw13765932439249540926 : True := trivial
theorem A.tw13964624513649076710 : True := trivial
theorem A.tw1231048032295646701 : True := trivial
theorem A.tw1683608423951821142 : True := trivial
theorem A.tw12989911310890110614 : True := trivial
theorem A.tw8302648207863253056 : True := trivial
theorem A.tw7209187667494810462 : True := trivial
theorem A.tw17695215439152662216 : True := trivial
theorem A.tw7808915184181602558 : True := trivial
theorem A.tw15581840223784076585 : True := trivial
theorem A.tw8634840584588412540 : True := trivial
theorem A.tw5470843078878287564 : True := trivial
theorem A.tw8827216752121748883 : True := trivial
theorem A.tw12340207142866818254 : True := trivial
theorem A.tw12193266790592918035 : True := trivial
theorem A.tw2212270472454665179 : True := trivial
theorem A.tw18372935253766988584 : True := trivial
theorem A.tw18091670199125000859 : True := trivial
theorem A.tw16865932995392713332 : True := trivial
theorem A.tw1848788643357270234 : True := trivial
theorem A.tw10560450822253899665 : True := trivial
theorem A.tw13324856581928621811 : True := trivial
theorem A.tw14297070786644662553 : True := trivial
theorem A.tw2794244015835466568 : True := trivial
theorem A.tw1941937502131451318 : True := trivial
theorem A.tw15184878761526315812 : True := trivial
theorem A.tw757410147631527221 : True := trivial
theorem A.tw4813540811399121240 : True := trivial
theorem A.tw1905150852539503985 : True := trivial
theorem A.tw302016051254600017 : True := trivial
theorem A.tw17445035016331381763 : True := trivial
theorem A.tw14661664165096760033 : True := trivial
theorem A.tw3013667010681386423 : True := trivial
theorem A.tw302668335785087709 : True := trivial
theorem A.tw16968332620267311704 : True := trivial
theorem A.tw9932821238158273799 : True := trivial
theorem A.tw4747076974709369883 : True := trivial
theorem A.tw12846128244037733704 : True := trivial
set_option Elab.async true in
theorem A : PySem.Challenge.rw_up0005_01.Holds := by
  w_on
  o_law
  k_head
  (case hw => w_witness2)
  k_go0
  rename_i w s₀ s₁ mg mb G0 Y fa o pm doc ho hg KX X V GL T B TE TW w10 w9 M w8 w7 hcd ns hs hlay0 hL1 hr1 hl2 w5 w4 sl vs w1 hL ra wl1 r0 hI hr hc1 hc2 K0 hD h₁ tk₁ F oc od N0 X0
  have Bs : Base (A0.heap_1_1 w.params) s₁.heap mg mb := ⟨KX, T.g, T.b, T.nolimit, T.builtins⟩
  dsimp only at od ⊢
  refine law_in (x := "script") (v := .ref sl) (y := "turn") ["deck", "words", "others", "pairs", "old", "firsts", "new", "ends", "head", "tail", "buffer", "start", "marks", "nth", "one", "other", "marker", "letter", "text", "codes", "is_put"] ["_law_words", "_law_joined", "_law_draw", "Buffer", "len", "insert", "range", "Marker", "set_marker", "put_text", "list"] [some (.ref sl), none, none, none, none, none, none, none, none, none, none, none, none, none, none, none, none, none, none, none, none, none] F N0 od (by decide +kernel) rfl rfl ?_ ?_
  · clear X0 F N0 K0 hD hr r0 wl1 ra hr1 hL1 hlay0 hs hcd M TW TE T GL V X Y G0 od oc hg ho
    intro A oc R oC EV S
    have hlen : ns.length ≤ 63 := by (first | lia | omega)
    (with_reducible refine x_cons ?_)
    refine x_compA rfl rfl ?_
    (with_reducible refine Subscript_ ?_; refine r_locE ‹_› ‹_› (by kun_count) ?_; refine r_slice ?_; refine wpAny_evalPart_none ?_; refine wpAny_evalPart_some ?_; refine r_int ?_; refine wpAny_evalPart_none ?_; refine r_slck ‹_› ?_; intro _ _ _ _ _ _)
    refine r_hd (S := by assumption) (let ⟨ol, qo, ro⟩ := hL; ⟨ol, St.Gkeep (by assumption) _ _ qo, ro⟩) hI (by kso_lit) (.int _ _) ⟨by (first | lia | omega), by (first | lia | omega)⟩ ?_
    intro r1 h1 g1 hle1 hr1 S1
    clear S
    obtain ⟨us, hu, hiu, hlu⟩ := hr1.has
    refine r_compLA R EV S1 (fun D => by kxw_int) hu (by rw [hlu, sl_length]; (first | lia | omega)) rfl rfl rfl (fun i g' ys news' => Ex1 fun ks => An3 (IntsAre ys ks) (ks.length ≤ i) (news' = [(s₁.heap.objs.size + 1, oc)])) ?_ ⟨[], .nil, Nat.le_refl _, rfl⟩ ?_ ?_
    · rintro i ga gb ys l hl ⟨ks, k1, k2, k3⟩
      exact ⟨ks, k1, k2, k3⟩
    · rintro i v C g2 h2 tk2 ys _ own2 hv hle2 ⟨ks, k1, k2, rfl⟩ hyl S2
      simp only [List.cons_append, List.nil_append] at S2
      obtain ⟨k, t, rfl, _⟩ := ints_at hiu hv
      refine x_inC (x := "cell") (gl := ["abs"]) (cn := []) (cl := []) rfl (by decide +kernel) (fun p hp => nomatch hp) (fun EC => ?_)
      (with_reducible refine Call_ ?_ (by with_unfolding_all rfl); refine r_globE ‹_› ‹_› ‹_› (by lks_lit) g_abs ?_; refine r_cwbA ?_ (by with_unfolding_all rfl) (by with_unfolding_all rfl); refine args_cons ?_ (by with_unfolding_all rfl); refine r_locE ‹_› ‹_› (by kun_count) ?_; refine args_nil ?_)
      refine call_abs_int fun u tk9 => ?_
      exact ⟨g2, h2, tk9, [(s₁.heap.objs.size + 1, oc)], rfl, Le.rfl, S2, ks ++ [_], k1.append (.cons _ _ .nil), by rw [List.length_append]; simp only [List.length_cons, List.length_nil]; (first | lia | omega), rfl⟩
    rintro d od g2 h2 tk2 ys _ hle2 hod S2 ⟨ks, k1, k2, rfl⟩
    have hdk : DeckO od := ⟨ks, ⟨ys, hod, k1⟩, by rw [hlu, sl_length] at k2; (first | lia | omega)⟩
    clear hod k1 k2 hlu hiu hu hr1 S1 hI hL hc1 hlen
    (with_reducible refine x_next ?_; refine x_cons ?_; refine Assign_Tuple ?_ (by with_unfolding_all rfl) (by with_unfolding_all rfl); refine Call_ ?_ (by with_unfolding_all rfl); refine r_globE ‹_› ‹_› ‹_› (by lks_lit) g_law_words ?_; refine r_cwA ‹_› kp_544 ?_ (by with_unfolding_all rfl) (by with_unfolding_all rfl); refine args_cons ?_ (by with_unfolding_all rfl); refine r_locE ‹_› ‹_› (by kun_count) ?_; refine args_nil ?_; refine r_le ‹_› (by rfl) ?_)
    refine r_callL (W := [(d, od)]) (rest := [(s₁.heap.objs.size + 1, oc)]) S2 (words_spec Bs hdk) R (by decide) ?_
    rintro _ h3 tk3 g3 _ hle3 S3 ⟨T3, rw, ro, rp, vw, vo, vp, Ws, Os, Ps, bl, gt, ft, od3, rfl, hT3, hw3, hW3, ho3, hO3, hpp3, hP3, WR, rfl, hdk3⟩
    clear S2 hdk
    simp only [List.cons_append, List.nil_append] at S3
    (with_reducible refine r_asgT ‹_› ‹_› (by kso_lit) ?_ (by with_unfolding_all rfl) (by with_unfolding_all rfl); intro _ _ _; refine r_asgN ?_; refine r_storeE ‹_› ‹_› (by kxw_int) ?_; intro _ _; refine r_asgN ?_; refine r_storeE ‹_› ‹_› (by kxw_int) ?_; intro _ _; refine r_asgN ?_; refine r_storeE ‹_› ‹_› (by kxw_int) ?_; intro _ _; refine r_asg0 ?_; refine x_next ?_; refine x_cons ?_; refine Assign_Tuple ?_ (by with_unfolding_all rfl) (by with_unfolding_all rfl); refine Call_ ?_ (by with_unfolding_all rfl); refine r_globE ‹_› ‹_› ‹_› (by lks_lit) g_law_joined ?_; refine r_cwA ‹_› kp_558 ?_ (by with_unfolding_all rfl) (by with_unfolding_all rfl); refine args_cons ?_ (by with_unfolding_all rfl); refine r_locE ‹_› ‹_› (by kun_count) ?_; refine args_cons ?_ (by with_unfolding_all rfl); refine r_locE ‹_› ‹_› (by kun_count) ?_; refine args_nil ?_; refine r_le ‹_› (by rfl) ?_)
    have few := WR.few3
    refine r_callL (W := [(d, od3)]) (rest := [(s₁.heap.objs.size + 1, oc)]) (by assumption) (joined_spec Bs hdk3 hw3 hW3 ⟨by (first | lia | omega), fun l hl => (WR.wW l hl).2⟩) R (by decide) ?_
    rintro _ h4 tk4 g4 _ hle4 S4 ⟨T4, ra, rb, old, fs, od4, lead, SS, tl, rfl, hT4, hra, hrb, J1, rfl, hdk4⟩
    clear hdk3
    simp only [List.cons_append, List.nil_append] at S4
    (with_reducible refine r_asgT ‹_› ‹_› (by kso_lit) ?_ (by with_unfolding_all rfl) (by with_unfolding_all rfl); intro _ _ _; refine r_asgN ?_; refine r_storeE ‹_› ‹_› (by kxw_int) ?_; intro _ _; refine r_asgN ?_; refine r_storeE ‹_› ‹_› (by kxw_int) ?_; intro _ _; refine r_asg0 ?_; refine x_next ?_; refine x_cons ?_; refine Assign_Tuple ?_ (by with_unfolding_all rfl) (by with_unfolding_all rfl); refine Call_ ?_ (by with_unfolding_all rfl); refine r_globE ‹_› ‹_› ‹_› (by lks_lit) g_law_joined ?_; refine r_cwA ‹_› kp_558 ?_ (by with_unfolding_all rfl) (by with_unfolding_all rfl); refine args_cons ?_ (by with_unfolding_all rfl); refine r_locE ‹_› ‹_› (by kun_count) ?_; refine args_cons ?_ (by with_unfolding_all rfl); refine r_locE ‹_› ‹_› (by kun_count) ?_; refine args_nil ?_; refine r_le ‹_› (by rfl) ?_)
    refine r_callL (W := [(d, od4)]) (rest := [(s₁.heap.objs.size + 1, oc)]) (by assumption) (joined_spec Bs hdk4 (ho3.le hle4) (hO3.wdle hle4) ⟨by (first | lia | omega), fun l hl => (WR.wO l hl).2⟩) R (by decide) ?_
    rintro _ h5 tk5 g5 _ hle5 S5 ⟨T5, rc, rd, new, es, od5, lead', TT, tl', rfl, hT5, hrc, hrd, J2, rfl, hdk5⟩
    clear hdk4
    simp only [List.cons_append, List.nil_append] at S5
    (with_reducible refine r_asgT ‹_› ‹_› (by kso_lit) ?_ (by with_unfolding_all rfl) (by with_unfolding_all rfl); intro _ _ _; refine r_asgN ?_; refine r_storeE ‹_› ‹_› (by kxw_int) ?_; intro _ _; refine r_asgN ?_; refine r_storeE ‹_› ‹_› (by kxw_int) ?_; intro _ _; refine r_asg0 ?_; refine x_next ?_; refine x_cons ?_; refine x_swap2 ?_ (by with_unfolding_all rfl) (by with_unfolding_all rfl); refine Tuple_ ?_; refine args_cons ?_ (by with_unfolding_all rfl); refine Subscript_ ?_; refine List_ ?_; refine args_cons ?_ (by with_unfolding_all rfl); refine List_ ?_; refine args_nil ?_)
    refine r_listI (S := by assumption) ?_
    intro p1 h6 g6 hle6 hp1 S6
    (with_reducible refine args_cons ?_ (by with_unfolding_all rfl); refine List_ ?_; refine args_cons ?_ (by with_unfolding_all rfl); refine r_int ?_; refine args_nil ?_; refine r_intsI ‹_› (by apply IntsAre.cons; kda_here) (Nat.le_of_ble_eq_true rfl) ?_; intro _ _ _ _ _ _; refine args_cons ?_ (by with_unfolding_all rfl); refine List_ ?_; refine args_cons ?_ (by with_unfolding_all rfl); refine r_int ?_; refine args_cons ?_ (by with_unfolding_all rfl); refine r_int ?_; refine args_nil ?_; refine r_intsI ‹_› (by apply IntsAre.cons; kda_here) (Nat.le_of_ble_eq_true rfl) ?_; intro _ _ _ _ _ _; refine args_nil ?_)
    rename_i p2 _ g7 hl7 hp2 _ p3 _ g8 hl8 hp3 _
    refine r_listI (S := by assumption) ?_
    intro p4 h9 g9 hle9 hp4 S9
    have hA1 : LsAre WdAt g9 [.ref p1, .ref p2, .ref p3] [[], [120], [121, 32]] :=
      .cons ⟨_, rfl, (hp1.ints .nil).le (hl7.trans (hl8.trans hle9))⟩ (.cons ⟨_, rfl, hp2.le (hl8.trans hle9)⟩ (.cons ⟨_, rfl, hp3.le hle9⟩ .nil))
    (with_reducible refine Call_ ?_ (by with_unfolding_all rfl); refine r_globE ‹_› ‹_› ‹_› (by lks_lit) g_law_draw ?_; refine r_cwA ‹_› kp_532 ?_ (by with_unfolding_all rfl) (by with_unfolding_all rfl); refine args_cons ?_ (by with_unfolding_all rfl); refine r_locE ‹_› ‹_› (by kun_count) ?_; refine args_cons ?_ (by with_unfolding_all rfl); refine r_int ?_; refine args_nil ?_; refine r_le ‹_› (by rfl) ?_)
    refine r_callL (W := [(d, od5)]) (rest := [(s₁.heap.objs.size + 1, oc)]) (by assumption) (draw2 Bs hdk5 (many := 3) (by decide)) R (by decide) ?_
    rintro _ h10 tk10 g10 _ hle10 S10 ⟨k1, u1, od6, rfl, hk1, rfl, hdk6⟩
    simp only [List.cons_append, List.nil_append] at S10
    obtain ⟨hdl, hhdl, lhd⟩ : ∃ l, ([[], [120], [121, 32]] : List (List Int))[k1.toNat]? = some l ∧ l.length ≤ 2 := by
      have hk5 : k1 = 0 ∨ k1 = 1 ∨ k1 = 2 := by (first | lia | omega)
      rcases hk5 with rfl | rfl | rfl <;> exact ⟨_, rfl, by decide⟩
    obtain ⟨_, hv1, rh, rfl, hrh⟩ := hA1.get hhdl
    (with_reducible refine' r_item ?a181x1 ?a181x2 ?a181x3 ?_ ?a181x4; (case a181x4 => with_unfolding_all rfl); (case a181x1 => kso_lit); (case a181x3 => assumption); (case a181x2 => kpa_letter); refine args_cons ?_ (by with_unfolding_all rfl); refine Subscript_ ?_; refine List_ ?_; refine args_cons ?_ (by with_unfolding_all rfl); refine List_ ?_; refine args_nil ?_)
    refine r_listI (S := by assumption) ?_
    intro p5 h11 g11 hle11 hp5 S11
    (with_reducible refine args_cons ?_ (by with_unfolding_all rfl); refine List_ ?_; refine args_cons ?_ (by with_unfolding_all rfl); refine r_int ?_; refine args_nil ?_; refine r_intsI ‹_› (by apply IntsAre.cons; kda_here) (Nat.le_of_ble_eq_true rfl) ?_; intro _ _ _ _ _ _; refine args_cons ?_ (by with_unfolding_all rfl); refine List_ ?_; refine args_cons ?_ (by with_unfolding_all rfl); refine r_int ?_; refine args_cons ?_ (by with_unfolding_all rfl); refine r_int ?_; refine args_nil ?_; refine r_intsI ‹_› (by apply IntsAre.cons; kda_here) (Nat.le_of_ble_eq_true rfl) ?_; intro _ _ _ _ _ _; refine args_nil ?_)
    rename_i p6 _ g12 hl12 hp6 _ p7 _ g13 hl13 hp7 _
    refine r_listI (S := by assumption) ?_
    intro p8 h14 g14 hle14 hp8 S14
    have hA2 : LsAre WdAt g14 [.ref p5, .ref p6, .ref p7] [[], [122], [10, 122]] :=
      .cons ⟨_, rfl, (hp5.ints .nil).le (hl12.trans (hl13.trans hle14))⟩ (.cons ⟨_, rfl, hp6.le (hl13.trans hle14)⟩ (.cons ⟨_, rfl, hp7.le hle14⟩ .nil))
    (with_reducible refine Call_ ?_ (by with_unfolding_all rfl); refine r_globE ‹_› ‹_› ‹_› (by lks_lit) g_law_draw ?_; refine r_cwA ‹_› kp_532 ?_ (by with_unfolding_all rfl) (by with_unfolding_all rfl); refine args_cons ?_ (by with_unfolding_all rfl); refine r_locE ‹_› ‹_› (by kun_count) ?_; refine args_cons ?_ (by with_unfolding_all rfl); refine r_int ?_; refine args_nil ?_; refine r_le ‹_› (by rfl) ?_)
    refine r_callL (W := [(d, od6)]) (rest := [(s₁.heap.objs.size + 1, oc)]) (by assumption) (draw2 Bs hdk6 (many := 3) (by decide)) R (by decide) ?_
    rintro _ h15 tk15 g15 _ hle15 S15 ⟨k2, u2, od7, rfl, hk2, rfl, hdk7⟩
    simp only [List.cons_append, List.nil_append] at S15
    obtain ⟨tal, htal, lta⟩ : ∃ l, ([[], [122], [10, 122]] : List (List Int))[k2.toNat]? = some l ∧ l.length ≤ 2 := by
      have hk5 : k2 = 0 ∨ k2 = 1 ∨ k2 = 2 := by (first | lia | omega)
      rcases hk5 with rfl | rfl | rfl <;> exact ⟨_, rfl, by decide⟩
    obtain ⟨_, hv2, rt, rfl, hrt⟩ := hA2.get htal
    (with_reducible refine' r_item ?a182x1 ?a182x2 ?a182x3 ?_ ?a182x4; (case a182x4 => with_unfolding_all rfl); (case a182x1 => kso_lit); (case a182x3 => assumption); (case a182x2 => kpa_letter); refine args_nil ?_; refine r_swap2 ‹_› ‹_› ?_; intro _ _; refine r_swpN ?_; refine r_storeE ‹_› ‹_› (by kxw_int) ?_; intro _ _; refine r_swpN ?_; refine r_storeE ‹_› ‹_› (by kxw_int) ?_; intro _ _; refine r_swp0 ?_; refine x_next ?_; refine x_cons ?_; refine x_swap3 ?_ (by with_unfolding_all rfl) (by with_unfolding_all rfl); refine Tuple_ ?_; refine args_cons ?_ (by with_unfolding_all rfl); refine Call_ ?_ (by with_unfolding_all rfl); refine r_globE ‹_› ‹_› ‹_› (by lks_lit) g_Buffer ?_; refine r_cwA ‹_› kp_516 ?_ (by with_unfolding_all rfl) (by with_unfolding_all rfl); refine args_cons ?_ (by with_unfolding_all rfl); refine r_int ?_; refine args_cons ?_ (by with_unfolding_all rfl); refine r_str ?_; refine args_nil ?_; refine r_le ‹_› (by rfl) ?_)
    refine r_make (W := []) (rest := [(d, od7), (s₁.heap.objs.size + 1, oc)]) (by assumption) Bs (.refl _) mk_Buffer (fun x dx H g1 hl hi => binit_spec Bs hi) R (by decide) ?_
    rintro b bd h16 tk16 g16 _ hle16 hib S16 ⟨ob, t, td, ot, c, occ, ms, msd, rwd, orw, ls, rfl, bg, bo, go, dc⟩
    simp only [List.cons_append, List.nil_append] at S16
    (with_reducible refine args_cons ?_ (by with_unfolding_all rfl); refine wpAny_BinOp ?_; refine Call_ ?_ (by with_unfolding_all rfl); refine r_globE ‹_› ‹_› ‹_› (by lks_lit) g_len ?_; refine r_cwbA ?_ (by with_unfolding_all rfl) (by with_unfolding_all rfl); refine args_cons ?_ (by with_unfolding_all rfl); refine r_locE ‹_› ‹_› (by kun_count) ?_; refine args_nil ?_; refine r_lenI (by kso_lit) (by kpa_letter) ?_; refine r_int ?_; refine r_add ?_; refine args_cons ?_ (by with_unfolding_all rfl); refine List_ ?_; refine args_nil ?_)
    refine r_list (S := by assumption) ?_
    intro ma h17 om hom S17
    have lO := (J1.spans WR.wW).2.2
    have lN := (J2.spans WR.wO).2.2
    (with_reducible refine args_nil ?_; refine r_swap3 ‹_› ‹_› ?_; intro _ _; refine r_swpN ?_; refine r_storeE ‹_› ‹_› (by kxw_int) ?_; intro _ _; refine r_swpN ?_; refine r_storeE ‹_› ‹_› (by kxw_int) ?_; intro _ _; refine r_swpN ?_; refine r_storeE ‹_› ‹_› (by kxw_int) ?_; intro _ _; refine r_swp0 ?_; refine x_next ?_; refine x_cons ?_; refine x_exprE ‹_› ?_ (by with_unfolding_all rfl); refine Call_ ?_ (by with_unfolding_all rfl); refine r_globE ‹_› ‹_› ‹_› (by lks_lit) g_insert ?_; refine r_cwA ‹_› kp_127 ?_ (by with_unfolding_all rfl) (by with_unfolding_all rfl); refine args_cons ?_ (by with_unfolding_all rfl); refine r_locE ‹_› ‹_› (by kun_count) ?_; refine args_cons ?_ (by with_unfolding_all rfl); refine wpAny_BinOp ?_; refine wpAny_BinOp ?_; refine r_locE ‹_› ‹_› (by kun_count) ?_; refine r_locE ‹_› ‹_› (by kun_count) ?_; refine r_addIm ‹_› (by kso_lit) (by kso_lit) (by kpa_letter) ?_; intro _ _ _ _ _ _; refine r_locE ‹_› ‹_› (by kun_count) ?_; refine r_addIm ‹_› (by kso_lit) (by kso_lit) (by kpa_letter) ?_; intro _ _ _ _ _ _; refine args_nil ?_; refine r_le ‹_› (by rfl) ?_)
    rename_i q1 _ g18 hl18 hq1 _ q2 _ g19 hl19 hq2 _
    refine r_call (W := [(bd, ob), (td, ot), (c, occ), (rwd, orw)]) (rest := [(ma, om), (d, od7), (s₁.heap.objs.size + 1, oc)]) (by assumption) List.perm_middle.symm (insert_spec Bs (n := q2) (ns := hdl ++ old ++ tal) (txt := []) (l := []) (marks := []) (p := 1) (z := 1) ⟨bg.le (hl18.trans hl19), bo, ⟨_, 0, 8, go, rfl, by decide⟩, dc, .nil, by decide, fun m hm => (nomatch hm), .nil, fun m hm => (nomatch hm), rfl, by decide⟩ (by kun_lit) (by simp only [List.length_append]; (first | lia | omega))) R (by decide) ?_
    rintro _ h20 tk20 g20 _ hle20 S20 ⟨ob2, ot2, oc2, mks, p0, rfl, bo2, _, tx2, mo2⟩
    obtain rfl : mks = [] := by cases mo2; rfl
    simp only [List.cons_append, List.nil_append] at S20
    have bo3 : BufO w.params ob2 t ms ls p0 ((hdl ++ (old ++ tal)).length + 1) := by
      have e : (1 : Int) + ↑(hdl ++ old ++ tal).length - (1 - 1) = ((hdl ++ (old ++ tal)).length : Int) + 1 := by rw [List.append_assoc]; (first | lia | omega)
      rw [← e]; exact bo2
    have tx3 : TxtO w.params ot2 oc2 c (hdl ++ (old ++ tal)) := by
      have e : rep [] 1 1 (hdl ++ old ++ tal) = hdl ++ (old ++ tal) := by simp [rep]
      rw [← e]; exact tx2
    have l16 : Le g16 g20 := by kse_has
    have l14 : Le g14 g20 := by kse_has
    have l9 : Le g9 g20 := by kse_has
    have l5 : Le g5 g20 := by kse_has
    have l4 : Le g4 g20 := by kse_has
    have l3 : Le g3 g20 := by kse_has
    replace hw3 := hw3.le l3
    replace hW3 : LsAre WdAt g20 vw Ws := hW3.wdle l3
    replace hpp3 := hpp3.le l3
    replace hP3 := hP3.pile l3
    replace hra := hra.le l4
    replace hrb := hrb.le l4
    replace hrc := hrc.le l5
    replace hrd := hrd.le l5
    replace hrh := hrh.le l9
    replace hrt := hrt.le l14
    replace bg := bg.le l16
    have lP := hP3.length
    have lW := hW3.length
    obtain ⟨s, hs⟩ : ∃ s : Int, s = hdl.length + 1 := ⟨_, rfl⟩
    rw [← hs] at S20
    have S20' := S20.perm (news' := [(d, od7), (ma, om), (s₁.heap.objs.size + 1, oc), (bd, ob2), (td, ot2), (c, oc2), (rwd, orw)]) ((List.perm_append_comm (l₁ := [(bd, ob2), (td, ot2), (c, oc2), (rwd, orw)]) (l₂ := [(ma, om), (d, od7), (s₁.heap.objs.size + 1, oc)])).trans (.swap _ _ _))
    obtain ⟨ts, S20'⟩ : ∃ ts, St (ent s₁.heap s₁.heap s₁.heap []) nmL s₁.heap.objs.size g20 h20 (vl sl d rw ro rp ra rb rc rd rh rt b s ts ma [none, none, none, none, none, none, none, none]) [(d, od7), (ma, om), (s₁.heap.objs.size + 1, oc), (bd, ob2), (td, ot2), (c, oc2), (rwd, orw)] := ⟨_, S20'⟩
    clear S20 bo2 tx2 mo2 hO3 ho3 hA1 hA2 hv1 hv2 hhdl htal hp1 hp2 hp3 hp5 hp6 hp7 hT3 hT4 hT5 bo go
    (with_reducible refine x_next ?_; refine x_cons ?_; refine x_for ?_ (by intro _; with_unfolding_all rfl); refine Call_ ?_ (by with_unfolding_all rfl); refine r_globE ‹_› ‹_› ‹_› (by lks_lit) g_range ?_; refine r_cwt ?_ (by with_unfolding_all rfl) (by with_unfolding_all rfl); refine args_cons ?_ (by with_unfolding_all rfl))
    refine x_midV (fun v s' => Ex6 fun k u h21 tk21 g21 od8 => An7 (v = .int k u) (s' = ⟨h21, s₁.gens, s₁.drawn, tk21, s₁.os⟩) (Le g20 g21) (St (ent s₁.heap s₁.heap s₁.heap []) nmL s₁.heap.objs.size g21 h21 (vl sl d rw ro rp ra rb rc rd rh rt b s ts ma [none, none, none, none, none, none, none, none]) [(d, od8), (ma, om), (s₁.heap.objs.size + 1, oc), (bd, ob2), (td, ot2), (c, oc2), (rwd, orw)]) (DeckO od8) ((0 ≤ k ∧ k ≤ 4)) ((0 < k → vp.length ≠ 0))) ?_ ?_
    · (with_reducible refine OpAll.all ?_; intro _ _; refine IfExp_ ?_; refine wpAny_isTrue_Compare1 ?_ (by with_unfolding_all rfl); refine r_locE ‹_› ‹_› (by kun_count) ?_; refine List_ ?_; refine args_nil ?_)
      refine r_listI S20' ?_
      intro z1 h21 g21 hle21 hz1 S21
      refine r_neE R ((hpp3.le hle21).le S21.le) (hz1.le S21.le) ?_
      (with_reducible refine wpAny_truthy_bool ?_; refine if_ndec ?_ ?_ <;> intro _; refine wpAny_BinOp ?_; refine r_int ?_; refine Call_ ?_ (by with_unfolding_all rfl); refine r_globE ‹_› ‹_› ‹_› (by lks_lit) g_law_draw ?_; refine r_cwA ‹_› kp_532 ?_ (by with_unfolding_all rfl) (by with_unfolding_all rfl); refine args_cons ?_ (by with_unfolding_all rfl); refine r_locE ‹_› ‹_› (by kun_count) ?_; refine args_cons ?_ (by with_unfolding_all rfl); refine r_int ?_; refine args_nil ?_; refine r_le ‹_› (by rfl) ?_; rotate_left; refine r_int ?_; refine OpQ.out ‹_› ?_; rotate_left)
      · refine r_callL (W := [(d, od7)]) (rest := [(ma, om), (s₁.heap.objs.size + 1, oc), (bd, ob2), (td, ot2), (c, oc2), (rwd, orw)]) S21 (draw2 Bs hdk7 (many := 4) (by decide)) R (by decide) ?_
        rintro _ h22 tk22 g22 _ hle22 S22 ⟨k3, u3, od8, rfl, hk3, rfl, hdk8⟩
        (with_reducible refine r_add ?_; refine OpQ.out ‹_› ?_)
        exact ⟨1 + k3, _, h22, _, g22, od8, rfl, rfl, hle21.trans hle22, S22, hdk8, by (first | lia | omega), fun _ => by assumption⟩
      · exact ⟨0, _, h21, _, g21, od7, rfl, rfl, hle21, S21, hdk7, by (first | lia | omega), fun hk => absurd hk (by decide)⟩
    rintro _ _ ⟨k, u, h21, tk21, g21, od8, rfl, rfl, hle21, S21, hdk8, hk8, hk0⟩
    clear S20' hdk7
    (with_reducible refine args_nil ?_; refine r_range ‹_› ?_; intro _ _ _ _ _ _ _)
    rename_i rr h22 g22 tk22 hle22 hr22 S22
    have l22 : Le g20 g22 := hle21.trans hle22
    refine r_forR R S22 hr22 ⟨hk8.1, by (first | lia | omega)⟩ (fun i g' vals' news' => Ex12 fun od om orw vm l rows mks b1 b2 b3 b4 b5 => An13 (vals' = vl sl d rw ro rp ra rb rc rd rh rt b s ts ma [b1, b2, b3, b4, b5, none, none, none]) (news' = (d, od) :: (ma, om) :: (s₁.heap.objs.size + 1, oc) :: (bd, ob2) :: (td, ot2) :: (c, oc2) :: (rwd, orw) :: mks) (DeckO od) (LstO om vm) (LsAre RwAt g' vm rows) (DctO PG w rwd orw (MkTab l)) ((l.map (·.num)).Pairwise (· < ·)) ((∀ m ∈ l, m.num ≤ i)) (l.length = i) ((∀ m ∈ l, Inst g' m.x 342 m.dx)) (MksO w.params b l mks) (l.map (fun m => (m.x, m.pos)) = rows.map (fun r => (r.x, r.b))) ((∀ r ∈ rows, RowOk s Ws Ps fs es r))) ⟨od8, om, orw, [], [], [], [], _, _, _, _, _, rfl, rfl, hdk8, hom, .nil, dc, .nil, (fun m hm => (nomatch hm)), rfl, (fun m hm => (nomatch hm)), .nil, rfl, fun r hr => (nomatch hr)⟩ ?_ ?_
    · rintro i ti g23 h23 tk23 _ _ own23 hi hle23 ⟨od9, om9, orw9, vm, l, rows, mks, b1, b2, b3, b4, b5, rfl, rfl, hd9, hm9, hrows, dc9, asc9, num9, len9, mi9, mo9, pos9, ok9⟩ S23
      simp only [List.cons_append] at S23
      have l23 : Le g20 g23 := l22.trans hle23
      have lp8 : Ps.length ≤ 8 := by rw [WR.p, prs_length]; exact few.2.2
      have hpp := hpp3.le l23
      have hw23 := hw3.le l23
      have hrb23 := hrb.le l23
      have hrd23 := hrd.le l23
      (with_reducible refine OpAll.all ?_; intro _ _; refine r_storeE ‹_› ‹_› (by kxw_int) ?_; intro _ _; refine x_cons ?_; refine Assign_Tuple ?_ (by with_unfolding_all rfl) (by with_unfolding_all rfl); refine Subscript_ ?_; refine r_locE ‹_› ‹_› (by kun_count) ?_; refine Call_ ?_ (by with_unfolding_all rfl); refine r_globE ‹_› ‹_› ‹_› (by lks_lit) g_law_draw ?_; refine r_cwA ‹_› kp_532 ?_ (by with_unfolding_all rfl) (by with_unfolding_all rfl); refine args_cons ?_ (by with_unfolding_all rfl); refine r_locE ‹_› ‹_› (by kun_count) ?_; refine args_cons ?_ (by with_unfolding_all rfl); refine Call_ ?_ (by with_unfolding_all rfl); refine r_globE ‹_› ‹_› ‹_› (by lks_lit) g_len ?_; refine r_cwbA ?_ (by with_unfolding_all rfl) (by with_unfolding_all rfl); refine args_cons ?_ (by with_unfolding_all rfl); refine r_locE ‹_› ‹_› (by kun_count) ?_; refine args_nil ?_; refine r_len (by kso_lit) (by kpa_letter) ?_; refine args_nil ?_; refine r_le ‹_› (by rfl) ?_)
      refine r_callL (W := [(d, od9)]) (rest := (ma, om9) :: (s₁.heap.objs.size + 1, oc) :: (bd, ob2) :: (td, ot2) :: (c, oc2) :: (rwd, orw9) :: (mks ++ own23)) (by assumption) (draw2 Bs hd9 (many := (vp.length : Int)) (by have := hk0 (by (first | lia | omega)); (first | lia | omega))) R (by decide) ?_
      rintro _ h24 tk24 g24 _ hle24 S24 ⟨k4, u4, od10, rfl, hk4, rfl, hd10⟩
      simp only [List.cons_append, List.nil_append] at S24
      have hlt4 : k4.toNat < Ps.length := by (first | lia | omega)
      obtain ⟨⟨one, other⟩, hpr⟩ : ∃ pr, Ps[k4.toNat]? = some pr := ⟨_, List.getElem?_eq_getElem hlt4⟩
      obtain ⟨_, hv4, hPi⟩ := hP3.get hpr
      obtain ⟨r4, t4, t5, rfl, hr4⟩ := hPi.lst
      obtain ⟨o1, o2, wd, hwd, hod, hwl, hwl3⟩ := WR.pair (List.mem_of_getElem? hpr)
      obtain ⟨_, hvw, rwd1, rfl, hrwd1⟩ := hW3.get hwd
      obtain ⟨jf1, jf2, jf3⟩ := J1.first hwd
      obtain ⟨je1, je2, je3⟩ := J2.first hod
      have o3 := (List.getElem?_eq_some_iff.mp hwd).1
      have o4 := (List.getElem?_eq_some_iff.mp hod).1
      have lf := J1.flen
      have le := J2.flen
      have l24 : Le g20 g24 := l23.trans hle24
      have hr24 := hr4.le l24
      have hwd24 := hrwd1.le l24
      dsimp only at hr24
      (with_reducible refine' r_item ?a183x1 ?a183x2 ?a183x3 ?_ ?a183x4; (case a183x4 => with_unfolding_all rfl); (case a183x1 => kso_lit); (case a183x3 => assumption); (case a183x2 => kpa_letter))
      refine r_asgL R (by assumption) (hr24.le (St.le (by assumption))) ?_
      intro h25 S25
      (with_reducible refine r_asgN ?_; refine r_storeE ‹_› ‹_› (by kxw_int) ?_; intro _ _; refine r_asgN ?_; refine r_storeE ‹_› ‹_› (by kxw_int) ?_; intro _ _; refine r_asg0 ?_; refine x_next ?_; refine x_cons ?_; refine x_swap2 ?_ (by with_unfolding_all rfl) (by with_unfolding_all rfl); refine Tuple_ ?_; refine args_cons ?_ (by with_unfolding_all rfl); refine Call_ ?_ (by with_unfolding_all rfl); refine r_globE ‹_› ‹_› ‹_› (by lks_lit) g_Marker ?_; refine r_cwA ‹_› kp_342 ?_ (by with_unfolding_all rfl) (by with_unfolding_all rfl); refine args_cons ?_ (by with_unfolding_all rfl); refine wpAny_BinOp ?_; refine r_locE ‹_› ‹_› (by kun_count) ?_; refine r_int ?_; refine r_add ?_; refine args_cons ?_ (by with_unfolding_all rfl); refine wpAny_Compare1 ?_ (by with_unfolding_all rfl); refine Call_ ?_ (by with_unfolding_all rfl); refine r_globE ‹_› ‹_› ‹_› (by lks_lit) g_law_draw ?_; refine r_cwA ‹_› kp_532 ?_ (by with_unfolding_all rfl) (by with_unfolding_all rfl); refine args_cons ?_ (by with_unfolding_all rfl); refine r_locE ‹_› ‹_› (by kun_count) ?_; refine args_cons ?_ (by with_unfolding_all rfl); refine r_int ?_; refine args_nil ?_; refine r_le ‹_› (by rfl) ?_)
      refine r_callL (W := [(d, od10)]) (rest := (ma, om9) :: (s₁.heap.objs.size + 1, oc) :: (bd, ob2) :: (td, ot2) :: (c, oc2) :: (rwd, orw9) :: (mks ++ own23)) (by assumption) (draw2 Bs hd10 (many := 2) (by decide)) R (by decide) ?_
      rintro _ h26 tk26 g26 _ hle26 S26 ⟨k5, u5, od11, rfl, hk5, rfl, hd11⟩
      simp only [List.cons_append, List.nil_append] at S26
      (with_reducible refine r_int ?_; refine r_eq ?_; refine args_nil ?_; refine r_le ‹_› (by rfl) ?_)
      refine r_make (W := []) (rest := (d, od11) :: (ma, om9) :: (s₁.heap.objs.size + 1, oc) :: (bd, ob2) :: (td, ot2) :: (c, oc2) :: (rwd, orw9) :: (mks ++ own23)) (by assumption) Bs (.refl _) mk_Marker (fun x dx H g1 hl hi => minit_spec Bs hi) R (by decide) ?_
      rintro x dx h27 tk27 g27 _ hle27 hix S27 ⟨omk, t6, t7, rfl, hmk⟩
      simp only [List.cons_append, List.nil_append] at S27
      have l27 : Le g24 g27 := hle26.trans hle27
      have hw27 := hw23.le (hle24.trans l27)
      have hwd27 := hwd24.le l27
      (with_reducible refine args_cons ?_ (by with_unfolding_all rfl); refine wpAny_BinOp ?_; refine r_int ?_; refine Call_ ?_ (by with_unfolding_all rfl); refine r_globE ‹_› ‹_› ‹_› (by lks_lit) g_law_draw ?_; refine r_cwA ‹_› kp_532 ?_ (by with_unfolding_all rfl) (by with_unfolding_all rfl); refine args_cons ?_ (by with_unfolding_all rfl); refine r_locE ‹_› ‹_› (by kun_count) ?_; refine args_cons ?_ (by with_unfolding_all rfl); refine wpAny_BinOp ?_; refine Call_ ?_ (by with_unfolding_all rfl); refine r_globE ‹_› ‹_› ‹_› (by lks_lit) g_len ?_; refine r_cwbA ?_ (by with_unfolding_all rfl) (by with_unfolding_all rfl); refine args_cons ?_ (by with_unfolding_all rfl); refine Subscript_ ?_; refine r_locE ‹_› ‹_› (by kun_count) ?_; refine r_locE ‹_› ‹_› (by kun_count) ?_; refine' r_item ?a184x1 ?a184x2 ?a184x3 ?_ ?a184x4; (case a184x4 => with_unfolding_all rfl); (case a184x1 => kso_lit); (case a184x3 => assumption); (case a184x2 => kpa_letter); refine args_nil ?_; refine r_lenI (by kso_lit) (by kpa_letter) ?_; refine r_int ?_; refine r_sub ?_; refine args_nil ?_; refine r_le ‹_› (by rfl) ?_)
      refine r_call (W := [(d, od11)]) (rest := (dx, omk) :: (ma, om9) :: (s₁.heap.objs.size + 1, oc) :: (bd, ob2) :: (td, ot2) :: (c, oc2) :: (rwd, orw9) :: (mks ++ own23)) (by assumption) (.swap _ _ _) (draw2 Bs hd11 (many := (wd.length : Int) - 1) (by (first | lia | omega))) R (by decide) ?_
      rintro _ h28 tk28 g28 _ hle28 S28 ⟨k6, u6, od12, rfl, hk6, rfl, hd12⟩
      simp only [List.cons_append, List.nil_append] at S28
      have l28 : Le g23 g28 := hle24.trans (l27.trans hle28)
      have hrb28 := hrb23.le l28
      have hrd28 := hrd23.le l28
      (with_reducible refine r_add ?_; refine args_nil ?_; refine r_swap2 ‹_› ‹_› ?_; intro _ _; refine r_swpN ?_; refine r_storeE ‹_› ‹_› (by kxw_int) ?_; intro _ _; refine r_swpN ?_; refine r_storeE ‹_› ‹_› (by kxw_int) ?_; intro _ _; refine r_swp0 ?_; refine x_next ?_; refine x_cons ?_; refine x_exprE ‹_› ?_ (by with_unfolding_all rfl); refine Call_ ?_ (by with_unfolding_all rfl); refine r_globE ‹_› ‹_› ‹_› (by lks_lit) g_set_marker ?_; refine r_cwA ‹_› kp_525 ?_ (by with_unfolding_all rfl) (by with_unfolding_all rfl); refine args_cons ?_ (by with_unfolding_all rfl); refine r_locE ‹_› ‹_› (by kun_count) ?_; refine args_cons ?_ (by with_unfolding_all rfl); refine r_locE ‹_› ‹_› (by kun_count) ?_; refine args_cons ?_ (by with_unfolding_all rfl); refine wpAny_BinOp ?_; refine wpAny_BinOp ?_; refine r_locE ‹_› ‹_› (by kun_count) ?_; refine Subscript_ ?_; refine r_locE ‹_› ‹_› (by kun_count) ?_; refine r_locE ‹_› ‹_› (by kun_count) ?_; refine r_itemI (by kso_lit) (by kpa_letter) ?_ (by with_unfolding_all rfl); intro _; refine r_add ?_; refine r_locE ‹_› ‹_› (by kun_count) ?_; refine r_add ?_; refine args_nil ?_; refine r_le ‹_› (by rfl) ?_)
      have lt3 : ((hdl ++ (old ++ tal)).length : Int) = hdl.length + old.length + tal.length := by simp only [List.length_append]; (first | lia | omega)
      have hpl : 1 ≤ s + fs.getD one.toNat 0 + (1 + k6) ∧ s + fs.getD one.toNat 0 + (1 + k6) ≤ (hdl ++ (old ++ tal)).length + 1 := by (first | lia | omega)
      refine r_call (W := [(bd, ob2), (td, ot2), (c, oc2), (rwd, orw9), (dx, omk)]) (rest := (d, od12) :: (ma, om9) :: (s₁.heap.objs.size + 1, oc) :: (mks ++ own23)) (by assumption) ((List.Perm.swap _ _ _).trans (permA _ _ _ _ _ _ _ _ _)) (setmarker_spec Bs (bg.le (l23.trans l28)) bo3 tx3 dc9 (by unfold MkTab; rw [List.length_map]; (first | lia | omega)) (hix.le hle28) hmk hpl) R (by decide) ?_
      rintro _ h29 tk29 g29 _ hle29 S29 ⟨orw10, om10, rfl, dc10, mk10⟩
      simp only [List.cons_append, List.nil_append] at S29
      rw [stored_new (dx := dx) (adv := decide (k5 = 1)) (p := s + fs.getD one.toNat 0 + (1 + k6)) (fun m hm => by have := num9 m hm; (first | lia | omega))] at dc10
      have hrb29 := hrb28.le hle29
      have hrd29 := hrd28.le hle29
      (with_reducible refine x_next ?_; refine x_cons ?_; refine x_exprE ‹_› ?_ (by with_unfolding_all rfl); refine MethodCall_ ?_ (by with_unfolding_all rfl); refine r_locE ‹_› ‹_› (by kun_count) ?_; refine r_method (by kso_lit) PySem.F.slot_list_append PySem.F.type_list_append ?_; refine r_cwbB ?_ (by with_unfolding_all rfl) (by with_unfolding_all rfl); refine args_cons ?_ (by with_unfolding_all rfl); refine List_ ?_; refine args_cons ?_ (by with_unfolding_all rfl); refine r_locE ‹_› ‹_› (by kun_count) ?_; refine args_cons ?_ (by with_unfolding_all rfl); refine wpAny_BinOp ?_; refine wpAny_BinOp ?_; refine r_locE ‹_› ‹_› (by kun_count) ?_; refine Subscript_ ?_; refine r_locE ‹_› ‹_› (by kun_count) ?_; refine r_locE ‹_› ‹_› (by kun_count) ?_; refine r_itemI (by kso_lit) (by kpa_letter) ?_ (by with_unfolding_all rfl); intro _; refine r_add ?_; refine r_locE ‹_› ‹_› (by kun_count) ?_; refine r_add ?_; refine args_cons ?_ (by with_unfolding_all rfl); refine wpAny_BinOp ?_; refine wpAny_BinOp ?_; refine r_locE ‹_› ‹_› (by kun_count) ?_; refine Subscript_ ?_; refine r_locE ‹_› ‹_› (by kun_count) ?_; refine r_locE ‹_› ‹_› (by kun_count) ?_; refine r_itemI (by kso_lit) (by kpa_letter) ?_ (by with_unfolding_all rfl); intro _; refine r_add ?_; refine r_locE ‹_› ‹_› (by kun_count) ?_; refine r_add ?_; refine args_nil ?_)
      refine r_listI (S := by assumption) ?_
      intro q9 h30 g30 hle30 hq9 S30
      (with_reducible refine args_nil ?_)
      have lrow := hrows.length
      have lpos := congrArg List.length pos9
      rw [List.length_map, List.length_map] at lpos
      refine r_append (S := by assumption) hm9 (by kxw_text) (by rw [sizeLine_eq]; (first | lia | omega)) ?_
      intro h31 om11 hm11 S31
      (with_reducible refine x_next ?_; refine wpAny_execs_nil ?_; refine OpQ.out ‹_› ?_)
      have l30 : Le g23 g30 := l28.trans (hle29.trans hle30)
      refine ⟨g30, _, _, _, (d, od12) :: (ma, om11) :: (s₁.heap.objs.size + 1, oc) :: (bd, ob2) :: (td, ot2) :: (c, oc2) :: (rwd, orw10) :: (mks ++ [(dx, om10)]), rfl, l30, St.perm (by assumption) (permB _ _ _ _ _ _ _ _ _ _), od12, om11, orw10, vm ++ [.ref q9], l ++ [⟨i + 1, x, dx, decide (k5 = 1), s + fs.getD one.toNat 0 + (1 + k6)⟩], rows ++ [⟨x, s + es.getD other.toNat 0 + (1 + k6), s + fs.getD one.toNat 0 + (1 + k6)⟩], mks ++ [(dx, om10)], _, _, _, _, _, rfl, rfl, hd12, hm11, (hrows.rwle l30).app (.one ⟨q9, _, _, rfl, hq9⟩), dc10, ?_, fun m hm => ?_, ?_, fun m hm => ?_, mo9.app (.cons mk10 .nil), ?_, fun r hr => ?_⟩
      · rw [List.map_append, List.pairwise_append]
        refine ⟨asc9, List.pairwise_singleton _ _, fun a ha b hb => ?_⟩
        obtain ⟨m, hm, rfl⟩ := List.mem_map.mp ha
        rw [List.map_cons, List.map_nil, List.mem_singleton] at hb
        have := num9 m hm
        subst hb
        dsimp only
        (first | lia | omega)
      · rcases List.mem_append.mp hm with hm | hm
        · have := num9 m hm
          (first | lia | omega)
        · rw [List.mem_singleton.mp hm]
          dsimp only
          (first | lia | omega)
      · rw [List.length_append, len9]; rfl
      · rcases List.mem_append.mp hm with hm | hm
        · exact (mi9 m hm).le l30
        · rw [List.mem_singleton.mp hm]
          exact hix.le (hle28.trans (hle29.trans hle30))
      · rw [List.map_append, List.map_append, pos9]; rfl
      · rcases List.mem_append.mp hr with hr | hr
        · exact ok9 r hr
        · rw [List.mem_singleton.mp hr]
          exact ⟨one, other, 1 + k6, wd, List.mem_of_getElem? hpr, hwd, by (first | lia | omega), by (first | lia | omega), rfl, rfl⟩
    rintro g33 h33 tk33 _ _ hle33 S33 ⟨od13, om13, orw13, vm, l, rows, mks, b1, b2, b3, b4, b5, rfl, rfl, hd13, hm13, hrows, dc13, asc13, num13, len13, mi13, mo13, pos13, ok13⟩
    obtain ⟨g34, k1', k2', S34⟩ := (S33.perm (.swap _ _ _)).freezeW (fun b hb => by cases hb)
    have hma : LstAt g34 ma vm := ⟨om13, k2', hm13⟩
    have l34 : Le g20 g34 := l22.trans (hle33.trans k1')
    replace hrows := hrows.rwle k1'
    have lrow := hrows.length
    have lpos := congrArg List.length pos13
    rw [List.length_map, List.length_map] at lpos
    have lt3 : ((hdl ++ (old ++ tal)).length : Int) = hdl.length + old.length + tal.length := by simp only [List.length_append]; (first | lia | omega)
    have rowB : ∀ r ∈ rows, 1 ≤ r.b ∧ r.b ≤ (hdl ++ (old ++ tal)).length + 1 := fun r hr => by
      obtain ⟨one, other, letter, wd, h1, h2, h3, h4, h5, h6⟩ := ok13 r hr
      have := J1.first h2
      (first | lia | omega)
    clear S33 S22 S21 hdk8 hom dc
    (with_reducible refine x_next ?_; refine x_cons ?_)
    refine x_mid (fun s' => Ex5 fun g35 h35 tk35 ob3 p1 => An5 (s' = ⟨h35, s₁.gens, s₁.drawn, tk35, s₁.os⟩) (Le g34 g35) (St (ent s₁.heap s₁.heap s₁.heap []) nmL s₁.heap.objs.size g35 h35 (vl sl d rw ro rp ra rb rc rd rh rt b s ts ma [b1, b2, b3, b4, b5, none, none, none]) ((d, od13) :: (s₁.heap.objs.size + 1, oc) :: (bd, ob3) :: (td, ot2) :: (c, oc2) :: (rwd, orw13) :: mks)) (BufO w.params ob3 t ms ls p1 ((hdl ++ (old ++ tal)).length + 1)) ((∀ r, rows[0]? = some r → p1 = r.b))) ?_ ?_
    · (with_reducible refine OpAll.all ?_; intro _ _; refine wpAny_If ?_; refine wpAny_isTrue_Compare1 ?_ (by with_unfolding_all rfl); refine r_locE ‹_› ‹_› (by kun_count) ?_; refine List_ ?_; refine args_nil ?_)
      refine r_listI S34 ?_
      intro z2 h36 g36 hle36 hz2 S36
      refine r_neE R ((hma.le hle36).le S36.le) (hz2.le S36.le) ?_
      (with_reducible refine wpAny_truthy_bool ?_; refine if_ndec ?_ ?_ <;> intro _; refine x_cons ?_; refine x_exprE ‹_› ?_ (by with_unfolding_all rfl); refine MethodCall_ ?_ (by with_unfolding_all rfl); refine r_locE ‹_› ‹_› (by kun_count) ?_; rotate_left; refine wpAny_execs_nil ?_; refine OpQ.out ‹_› ?_; rotate_left)
      · obtain ⟨r0, hr0⟩ : ∃ r0, rows[0]? = some r0 := ⟨_, List.getElem?_eq_getElem (show 0 < rows.length by (first | lia | omega))⟩
        obtain ⟨_, hv0, q0, t0, u0, rfl, hq0⟩ := hrows.get hr0
        have hv0 : vm[(0 : Int).toNat]? = some (.ref q0) := hv0
        have hv2 : ([.ref r0.x, .int r0.a t0, .int r0.b u0] : List Value)[(2 : Int).toNat]? = some (.int r0.b u0) := rfl
        have hq0 := hq0.le hle36
        have hma36 := hma.le hle36
        have hbi := (bg.le (l34.trans hle36)).bi
        obtain ⟨_, _, _, _, _, _, _, _, _, _, _, _, hba⟩ := id bo3
        (with_reducible refine' r_meth ?a185x1 ?a185x2 ?a185x3 ?a185x4 ?a185x5 ?a185x6 ?_; (case a185x1 => assumption); (case a185x2 => assumption); (case a185x4 => kso_lit); (case a185x3 => exact co_Buffer); (case a185x5 => kso_lit); (case a185x6 => exact me_Buffer_goto); refine r_cwB ‹_› kp_485 ?_ (by with_unfolding_all rfl) (by with_unfolding_all rfl); refine args_cons ?_ (by with_unfolding_all rfl); refine Subscript_ ?_; refine Subscript_ ?_; refine r_locE ‹_› ‹_› (by kun_count) ?_; refine r_int ?_; refine' r_item ?a186x1 ?a186x2 ?a186x3 ?_ ?a186x4; (case a186x4 => with_unfolding_all rfl); (case a186x1 => kso_lit); (case a186x3 => assumption); (case a186x2 => kpa_letter); refine r_int ?_; refine' r_item ?a187x1 ?a187x2 ?a187x3 ?_ ?a187x4; (case a187x4 => with_unfolding_all rfl); (case a187x1 => kso_lit); (case a187x3 => assumption); (case a187x2 => kpa_letter); refine args_nil ?_; refine r_le ‹_› (by rfl) ?_)
        refine r_call (W := [(bd, ob2)]) (rest := (d, od13) :: (s₁.heap.objs.size + 1, oc) :: (td, ot2) :: (c, oc2) :: (rwd, orw13) :: mks) S36 (List.perm_middle (l₁ := [(d, od13), (s₁.heap.objs.size + 1, oc)])) (bgoto_spec Bs (bg.le (l34.trans hle36)) bo3 (rowB r0 (List.mem_of_getElem? hr0))) R (by decide) ?_
        rintro _ h37 tk37 g37 _ hle37 S37 ⟨ob3, rfl, bo4⟩
        (with_reducible refine x_next ?_; refine wpAny_execs_nil ?_; refine OpQ.out ‹_› ?_)
        exact ⟨rfl, g37, h37, _, ob3, r0.b, rfl, hle36.trans hle37, S37.perm (List.perm_middle (l₁ := [(d, od13), (s₁.heap.objs.size + 1, oc)])).symm, bo4, fun r hr => by rw [hr0] at hr; cases hr; rfl⟩
      · exact ⟨rfl, g36, h36, _, ob2, p0, rfl, hle36, S36, bo3, fun r hr => by rw [List.eq_nil_of_length_eq_zero (show rows.length = 0 by (first | lia | omega))] at hr; cases hr⟩
    rintro _ ⟨g35, h35, tk35, ob3, p1, rfl, hle35, S35, bo4, hp1'⟩
    clear S34 bo3
    have l35 : Le g20 g35 := l34.trans hle35
    have hra35 := hra.le l35
    have hrc35 := hrc.le l35
    (with_reducible refine x_next ?_; refine x_cons ?_; refine x_for ?_ (by intro _; with_unfolding_all rfl); refine Tuple_ ?_; refine args_cons ?_ (by with_unfolding_all rfl); refine Tuple_ ?_; refine args_cons ?_ (by with_unfolding_all rfl); refine r_int ?_; refine args_cons ?_ (by with_unfolding_all rfl); refine r_locE ‹_› ‹_› (by kun_count) ?_; refine args_cons ?_ (by with_unfolding_all rfl); refine r_locE ‹_› ‹_› (by kun_count) ?_; refine args_nil ?_)
    refine r_tupI (S := by assumption) ?_
    intro T6 h38 g38 hle38 hT6 S38
    (with_reducible refine args_cons ?_ (by with_unfolding_all rfl); refine Tuple_ ?_; refine args_cons ?_ (by with_unfolding_all rfl); refine r_int ?_; refine args_cons ?_ (by with_unfolding_all rfl); refine r_locE ‹_› ‹_› (by kun_count) ?_; refine args_cons ?_ (by with_unfolding_all rfl); refine r_locE ‹_› ‹_› (by kun_count) ?_; refine args_nil ?_)
    refine r_tupI (S := by assumption) ?_
    intro T7 h39 g39 hle39 hT7 S39
    (with_reducible refine args_nil ?_)
    refine r_tupI (S := by assumption) ?_
    intro T8 h40 g40 hle40 hT8 S40
    skip
    have f1 := tf1 WR J1 J2 ok13 hs (by (first | lia | omega)) (show tal.length ≤ 9 by (first | lia | omega))
    have f2 := tf2 WR J1 J2 ok13 hs (by (first | lia | omega)) (show tal.length ≤ 9 by (first | lia | omega))
    have hT6' := hT6.le (hle39.trans hle40)
    have hT7' := hT7.le hle40
    have l40 : Le g35 g40 := hle38.trans (hle39.trans hle40)
    have hra40 := hra35.le l40
    have hrc40 := hrc35.le l40
    have l34' : Le g34 g40 := hle35.trans l40
    have hma40 := hma.le l34'
    have hrows40 := hrows.rwle l34'
    have bg40 := bg.le (l35.trans l40)
    have hrh40 := hrh.le (l35.trans l40)
    have hrt40 := hrt.le (l35.trans l40)
    refine r_forT R S40 hT8 (fun i g' vals' news' => Ex16 fun ob p l' occ' cv ot' cc' mks' b1 b2 b3 b4 b5 b6 b7 b8 => An11 (vals' = vl sl d rw ro rp ra rb rc rd rh rt b s ts ma [b1, b2, b3, b4, b5, b6, b7, b8]) (news' = (d, od13) :: (s₁.heap.objs.size + 1, occ') :: (bd, ob) :: (td, ot') :: (c, cc') :: (rwd, orw13) :: mks') (CellO occ' cv) (BufO w.params ob t ms ls p ((hdl ++ (curT old new i ++ tal)).length + 1)) (TxtO w.params ot' cc' c (hdl ++ (curT old new i ++ tal))) (MksO w.params b l' mks') (l'.map (fun m => (m.x, m.pos)) = rows.map (fun r => (r.x, curP i r))) (MkTab l' = MkTab l) (l'.map (·.num) = l.map (·.num)) ((∀ m ∈ l', Inst g' m.x 342 m.dx)) ((∀ r, rows[0]? = some r → p = curP i r))) ⟨ob3, p1, l, oc, none, ot2, oc2, mks, b1, b2, b3, b4, b5, _, _, _, rfl, rfl, oC, bo4, tx3, mo13, pos13, rfl, rfl, fun m hm => (mi13 m hm).le (k1'.trans l34'), hp1'⟩ ?_ ?_
    · rintro i v g41 h41 tk41 _ _ own41 hv hle41 ⟨ob4, p4', l', occ', cv, ot4, cc4, mks4, b1, b2, b3, b4, b5, b6, b7, b8, rfl, rfl, oC4, bo5, tx5, mo5, pos5, tab5, num5, mi5, hp5⟩ S41
      simp only [List.cons_append] at S41
      obtain ⟨hi2, T, rx, ry, Ax, Bx, tt, rfl, hT, hrx, hry, tf, cA, cB, hmk⟩ := turn_facts hT6' hT7' hra40 hrc40 f1 f2 hv
      rw [cA] at bo5 tx5
      have hT41 := hT.le hle41
      have hrx41 := hrx.le hle41
      have hry41 := hry.le hle41
      have hma41 := hma40.le hle41
      have hrows41 := hrows40.rwle hle41
      have bg41 := bg40.le hle41
      have hrh41 := hrh40.le hle41
      have hrt41 := hrt40.le hle41
      have lens := tf.lens
      (with_reducible refine OpAll.all ?_; intro _ _; refine r_asgT ‹_› ‹_› (by kso_lit) ?_ (by with_unfolding_all rfl) (by with_unfolding_all rfl); intro _ _ _; refine r_asgN ?_)
      refine r_storeCE EV (by assumption) (List.mem_cons_self) oC4 (by kxw_text) ?_
      intro h42 occ5 oC5 S42
      have hsl : Mine.sl (hdl ++ (Ax ++ tal)) (s - 1) (s + Ax.length - 1) = Ax := sl_mid' hs
      have lt5 : ((hdl ++ (Ax ++ tal)).length : Int) = hdl.length + Ax.length + tal.length := by simp only [List.length_append]; (first | lia | omega)
      (with_reducible refine r_asgN ?_; refine r_storeE ‹_› ‹_› (by kxw_int) ?_; intro _ _; refine r_asgN ?_; refine r_storeE ‹_› ‹_› (by kxw_int) ?_; intro _ _; refine r_asg0 ?_; refine x_cons ?_; refine x_assign ?_ (by with_unfolding_all rfl); refine Call_ ?_ (by with_unfolding_all rfl); refine r_globE ‹_› ‹_› ‹_› (by lks_lit) g_put_text ?_; refine r_cwA ‹_› kp_178 ?_ (by with_unfolding_all rfl) (by with_unfolding_all rfl); refine args_cons ?_ (by with_unfolding_all rfl); refine r_locE ‹_› ‹_› (by kun_count) ?_; refine args_cons ?_ (by with_unfolding_all rfl); refine r_locE ‹_› ‹_› (by kun_count) ?_; refine args_cons ?_ (by with_unfolding_all rfl); refine wpAny_BinOp ?_; refine r_locE ‹_› ‹_› (by kun_count) ?_; refine Call_ ?_ (by with_unfolding_all rfl); refine r_globE ‹_› ‹_› ‹_› (by lks_lit) g_len ?_; refine r_cwbA ?_ (by with_unfolding_all rfl) (by with_unfolding_all rfl); refine args_cons ?_ (by with_unfolding_all rfl); refine r_locE ‹_› ‹_› (by kun_count) ?_; refine args_nil ?_; refine r_lenI (by kso_lit) (by kpa_letter) ?_; refine r_add ?_; refine args_cons ?_ (by with_unfolding_all rfl); refine Call_ ?_ (by with_unfolding_all rfl); refine r_globE ‹_› ‹_› ‹_› (by lks_lit) g_list ?_; refine r_cwt ?_ (by with_unfolding_all rfl) (by with_unfolding_all rfl); refine args_cons ?_ (by with_unfolding_all rfl); refine r_locE ‹_› ‹_› (by kun_count) ?_; refine args_nil ?_; refine r_listOfI ‹_› (by kso_lit) (by kpa_letter) ?_; intro _ _ _ _ _ _; refine args_nil ?_; refine r_le ‹_› (by rfl) ?_)
      rename_i z9 h43 g43 hle43 hz9 S43
      have l43 : Le g41 g43 := hle43
      refine r_call (W := (bd, ob4) :: (td, ot4) :: (c, cc4) :: (rwd, orw13) :: mks4) (rest := (d, od13) :: (s₁.heap.objs.size + 1, occ5) :: own41) (by assumption) (permC _ _ _ _ _ _ _ _) (puttext_spec Bs (txt := hdl ++ (Ax ++ tal)) (new := Bx) (l := l') (p := p4') (s := s) (e := s + Ax.length) (bg41.le l43) bo5 tx5 (by rw [tab5]; exact dc13) (by rw [num5]; exact asc13) ?few (fun m hm => (mi5 m hm).le l43) mo5 hz9 ⟨by (first | lia | omega), by (first | lia | omega)⟩ ⟨by (first | lia | omega), by (first | lia | omega), by (first | lia | omega)⟩ (by rw [hsl]; exact tf.chn) (by rw [hsl]; exact tf.few) (fun E hE => by
        rw [hsl] at hE
        refine (tf.edit E hE).2.2.1 _ fun q hq => ?_
        obtain ⟨m, hm, rfl⟩ := List.mem_map.mp hq
        have h1 : (m.x, m.pos) ∈ rows.map (fun r => (r.x, curP i r)) := by rw [← pos5]; exact List.mem_map_of_mem (f := fun m : Mk => (m.x, m.pos)) hm
        obtain ⟨r, hr, e⟩ := List.mem_map.mp h1
        exact ⟨r, hr, (congrArg Prod.snd e).symm⟩)) R (by decide) ?_
      · have := congrArg List.length num5
        rw [List.length_map, List.length_map] at this
        (first | lia | omega)
      rintro _ h44 tk44 g44 _ hle44 S44 ⟨E, ob6, ot6, cc6, mks6, p6, hE, hval, rfl, bo6, tx6, mo6, hp6⟩
      rw [hsl] at hE
      obtain ⟨e1, e2, e3, e4⟩ := tf.edit E hE
      rw [e1] at bo6 tx6
      rw [e4] at hval
      subst hval
      simp only [List.cons_append, List.nil_append] at S44
      have pos6 : (l'.map fun m => m.to (appP s E m.pos)).map (fun m => (m.x, m.pos)) = rows.map (fun r => (r.x, curP (i + 1) r)) := by
        have h1 := congrArg (List.map fun q : Addr × Int => (q.1, appP s E q.2)) pos5
        rw [List.map_map, List.map_map] at h1
        rw [List.map_map]
        refine Eq.trans h1 (List.map_congr_left fun r hr => ?_)
        show (r.x, appP s E (curP i r)) = (r.x, curP (i + 1) r)
        rw [e2 r hr]
      have hp6' : ∀ r, rows[0]? = some r → p6 = curP (i + 1) r := fun r hr => by
        have h1 := hp5 r hr
        have h2 := List.mem_of_getElem? hr
        rw [hp6 (e3 [p4'] fun q hq => ⟨r, h2, by rw [List.mem_singleton.mp hq, h1]⟩), h1]
        exact e2 r h2
      have mi6 : ∀ m ∈ (l'.map fun m => m.to (appP s E m.pos)), Inst g41 m.x 342 m.dx := fun m hm => by
        obtain ⟨m', hm', rfl⟩ := List.mem_map.mp hm
        exact mi5 m' hm'
      generalize hl6 : (l'.map fun m => m.to (appP s E m.pos)) = l6 at pos6 mi6 mo6
      have tab6 : MkTab l6 = MkTab l' := by rw [← hl6, MkTab.map]
      have num6 : l6.map (·.num) = l'.map (·.num) := by rw [← hl6, Mk.nums]
      clear S41 S42 S43 hl6 hp6
      obtain ⟨cells, ga, ge, hgo, hgt, hgl⟩ := id tx6
      obtain ⟨_, _, _, _, _, _, _, _, _, _, _, _, hba⟩ := id bo6
      have l44 : Le g41 g44 := l43.trans hle44
      have bg44 := bg41.le l44
      have bi44 := bg44.bi
      (with_reducible refine r_storeE ‹_› ‹_› (by kxw_int) ?_; intro _ _; refine x_next ?_; refine x_cons ?_; refine wpAny_If ?_; refine isTrue_or ?_; refine wpAny_isTrue_Compare1 ?_ (by with_unfolding_all rfl); refine r_locE ‹_› ‹_› (by kun_count) ?_; refine wpAny_Compare1 ?_ (by with_unfolding_all rfl); refine r_locE ‹_› ‹_› (by kun_count) ?_; refine r_locE ‹_› ‹_› (by kun_count) ?_; refine r_neI ‹_› (by kso_lit) (by kso_lit) ?_; refine PyProof.Rows.ne_bool ?_; refine wpAny_truthy_bool ?_)
      refine if_bs ?_
      (with_reducible refine isTrue_or ?_; refine wpAny_isTrue_Compare1 ?_ (by with_unfolding_all rfl); refine MethodCall_ ?_ (by with_unfolding_all rfl); refine r_locE ‹_› ‹_› (by kun_count) ?_; refine' r_meth ?a188x1 ?a188x2 ?a188x3 ?a188x4 ?a188x5 ?a188x6 ?_; (case a188x1 => assumption); (case a188x2 => assumption); (case a188x4 => kso_lit); (case a188x3 => exact co_Buffer); (case a188x5 => kso_lit); (case a188x6 => exact me_Buffer_codes); refine r_cwB ‹_› kp_478 ?_ (by with_unfolding_all rfl) (by with_unfolding_all rfl); refine args_cons ?_ (by with_unfolding_all rfl); refine r_int ?_; refine args_cons ?_ (by with_unfolding_all rfl); refine wpAny_BinOp ?_; refine MethodCall_ ?_ (by with_unfolding_all rfl); refine r_locE ‹_› ‹_› (by kun_count) ?_; refine' r_meth ?a189x1 ?a189x2 ?a189x3 ?a189x4 ?a189x5 ?a189x6 ?_; (case a189x1 => assumption); (case a189x2 => assumption); (case a189x4 => kso_lit); (case a189x3 => exact co_Buffer); (case a189x5 => kso_lit); (case a189x6 => exact me_Buffer_size); refine r_cw0B ‹_› ‹_› kp_464 ?_)
      refine r_callL (W := [(bd, ob6), (td, ot6), (c, cc6)]) (rest := (rwd, orw13) :: (mks6 ++ (d, od13) :: (s₁.heap.objs.size + 1, occ5) :: own41)) (by assumption) (bsize_spec Bs bg44 bo6 hgo) R (by decide) ?_
      rintro _ h45 tk45 g45 _ hle45 S45 ⟨rfl, kz, rfl⟩
      simp only [List.cons_append, List.nil_append] at S45
      (with_reducible refine r_int ?_; refine r_add ?_; refine args_nil ?_; refine r_le ‹_› (by rfl) ?_)
      refine r_callL (W := [(bd, ob6), (td, ot6), (c, cc6)]) (rest := (rwd, orw13) :: (mks6 ++ (d, od13) :: (s₁.heap.objs.size + 1, occ5) :: own41)) (by assumption) (bcodes_spec Bs (bg44.le hle45) bo6 hgo (x := 1) (y := (gtxt cells ga ge).length + 1) ⟨by (first | lia | omega), by (first | lia | omega), by (first | lia | omega)⟩) R (by decide) ?_
      rintro _ h46 tk46 g46 _ hle46 S46 ⟨rfl, r46, rfl, hr46⟩
      simp only [List.cons_append, List.nil_append] at S46
      rw [sl_all (by (first | lia | omega)) (by (first | lia | omega)), hgt] at hr46
      have l46 : Le g41 g46 := l44.trans (hle45.trans hle46)
      have hrh46 := hrh41.le l46
      have hrt46 := hrt41.le l46
      have hry46 := hry41.le l46
      have hma46 := hma41.le l46
      (with_reducible refine wpAny_BinOp ?_; refine wpAny_BinOp ?_; refine r_locE ‹_› ‹_› (by kun_count) ?_; refine r_locE ‹_› ‹_› (by kun_count) ?_; refine r_addIm ‹_› (by kso_lit) (by kso_lit) (by kpa_letter) ?_; intro _ _ _ _ _ _; refine r_locE ‹_› ‹_› (by kun_count) ?_; refine r_addIm ‹_› (by kso_lit) (by kso_lit) (by kpa_letter) ?_; intro _ _ _ _ _ _; refine r_neI ‹_› (by kso_lit) (by kso_lit) ?_; refine wpAny_truthy_bool ?_; refine if_ndec ?_ ?_ <;> intro _; refine if_t ?_; refine x_cons ?_; refine wpAny_Return_some ?_; refine wpAny_Constant_bool ?_; refine x_ret ?_; refine x_ret ?_; refine OpQ.out ‹_› ?_; rotate_left; refine isTrue_or_nil ?_; refine if_f ?_; refine wpAny_execs_nil ?_; refine x_next ?_; refine x_cons ?_; refine wpAny_If ?_; refine wpAny_isTrue_Compare1 ?_ (by with_unfolding_all rfl); rotate_left)
      · exfalso
        rename_i hne
        exact hne (by simp only [List.append_assoc])
      rename_i q3 _ g47 hl47 hq3 _ q4 h48 g48 hl48 hq4 S48 _
      have l48 : Le g46 g48 := hl47.trans hl48
      have hma48 := hma46.le l48
      have hrows48 := hrows41.rwle (l46.trans l48)
      have rowM : ∀ r ∈ rows, ∃ m ∈ l6, m.x = r.x ∧ m.pos = curP (i + 1) r := fun r hr => by
        have h1 : (r.x, curP (i + 1) r) ∈ l6.map (fun m => (m.x, m.pos)) := by rw [pos6]; exact List.mem_map_of_mem (f := fun r : Rw => (r.x, curP (i + 1) r)) hr
        obtain ⟨m, hm, e⟩ := List.mem_map.mp h1
        exact ⟨m, hm, congrArg Prod.fst e, congrArg Prod.snd e⟩
      have cel46 : (s₁.heap.objs.size + 1, occ5) ∈ (bd, ob6) :: (td, ot6) :: (c, cc6) :: (rwd, orw13) :: (mks6 ++ (d, od13) :: (s₁.heap.objs.size + 1, occ5) :: own41) := .tail _ (.tail _ (.tail _ (.tail _ (List.mem_append_right _ (.tail _ (.head _))))))
      refine x_comp rfl ?_
      (with_reducible refine r_locE ‹_› ‹_› (by kun_count) ?_)
      refine r_compL R S48 hma48 (by (first | lia | omega)) rfl rfl rfl (fun _ g' ys news' => ys = [] ∧ news' = (bd, ob6) :: (td, ot6) :: (c, cc6) :: (rwd, orw13) :: (mks6 ++ (d, od13) :: (s₁.heap.objs.size + 1, occ5) :: own41)) (fun _ _ _ _ _ _ h => h) ⟨rfl, rfl⟩ ?_ ?_
      · rintro n v C g49 h49 tk49 ys _ own49 hv49 hle49 ⟨rfl, rfl⟩ hyl S49
        obtain ⟨r, hr, q7, t7, u7, rfl, hq7⟩ := hrows48.at hv49
        obtain ⟨m, hm, ex, ep⟩ := rowM r (List.mem_of_getElem? hr)
        obtain ⟨om7, hom7, t8, u8, hatt⟩ := mo6.find hm
        have hin : (m.dx, om7) ∈ ((bd, ob6) :: (td, ot6) :: (c, cc6) :: (rwd, orw13) :: (mks6 ++ (d, od13) :: (s₁.heap.objs.size + 1, occ5) :: own41)) ++ own49 := List.mem_append_left _ (.tail _ (.tail _ (.tail _ (.tail _ (List.mem_append_left _ hom7)))))
        have hinst : Inst g49 r.x 342 m.dx := by rw [← ex]; exact (mi6 m hm).le (l46.trans (l48.trans hle49))
        have hcel : CellAt h49 (s₁.heap.objs.size + 1) (.int ((i + 1 : Nat) : Int) tt) := ⟨occ5, (S49.mem.hold _ (List.mem_append_left _ cel46)).1, oC5⟩
        have hv7 : ([.ref r.x, .int r.a t7, .int r.b u7] : List Value)[(0 : Int).toNat]? = some (.ref r.x) := rfl
        obtain ⟨tk7, hv8⟩ := hmk r.x t7 u7 r
        have hq7 := hq7.le hle49
        refine wpAny_tests_one ?_
        refine x_inT (x := "mark") (gl := []) (cn := ["turn"]) (cl := [("turn", s₁.heap.objs.size + 1)]) rfl (by decide +kernel) (fun p hp => by rw [List.mem_singleton.mp hp]; rfl) (fun EC => ?_)
        (with_reducible refine wpAny_isTrue_Compare1 ?_ (by with_unfolding_all rfl); refine Attribute_any_ ?_ (by with_unfolding_all rfl); refine Subscript_ ?_; refine r_locE ‹_› ‹_› (by kun_count) ?_; refine r_int ?_; refine' r_item ?a190x1 ?a190x2 ?a190x3 ?_ ?a190x4; (case a190x4 => with_unfolding_all rfl); (case a190x1 => kso_lit); (case a190x3 => assumption); (case a190x2 => kpa_letter); refine' r_get ?a191x1 ?a191x2 ?a191x3 ?a191x4 ?a191x5 ?a191x6 ?a191x7 ?_; (case a191x1 => assumption); (case a191x2 => assumption); (case a191x4 => kso_lit); (case a191x3 => exact co_Marker); (case a191x5 => kso_lit); (case a191x6 => kic_val); (case a191x7 => with_unfolding_all rfl); refine Subscript_ ?_; refine r_locE ‹_› ‹_› (by kun_count) ?_; refine r_cellE ‹_› (by lks_lit) (by kso_lit) ?_; refine' r_item ?a192x1 ?a192x2 ?a192x3 ?_ ?a192x4; (case a192x4 => with_unfolding_all rfl); (case a192x1 => kso_lit); (case a192x3 => assumption); (case a192x2 => kpa_letter); refine r_ne ?_; refine wpAny_truthy_bool ?_; refine if_ndec ?_ ?_ <;> intro _; refine r_int ?_; rotate_left; rotate_left)
        · exfalso
          rename_i hne
          exact hne ep
        · exact ⟨g49, _, _, _, rfl, Le.rfl, S49, rfl, rfl⟩
      rintro r50 g50 h50 tk50 _ _ hle50 hr50 S50 ⟨rfl, rfl⟩
      (with_reducible refine List_ ?_; refine args_nil ?_)
      refine r_listI S50 ?_
      intro z5 h51 g51 hle51 hz5 S51
      refine r_neE R ((hr50.le hle51).le S51.le) (hz5.le S51.le) ?_
      (with_reducible refine wpAny_truthy_bool ?_; refine if_ndec ?_ ?_ <;> intro _; refine x_cons ?_; refine wpAny_Return_some ?_; refine wpAny_Constant_bool ?_; refine x_ret ?_; refine x_ret ?_; refine OpQ.out ‹_› ?_; rotate_left; refine wpAny_execs_nil ?_; refine x_next ?_; refine x_cons ?_; refine wpAny_If ?_; refine isTrue_and ?_; refine wpAny_isTrue_Compare1 ?_ (by with_unfolding_all rfl); refine r_locE ‹_› ‹_› (by kun_count) ?_; refine List_ ?_; refine args_nil ?_; rotate_left)
      · rename_i hne
        exact absurd rfl hne
      refine r_listI S51 ?_
      intro z6 h52 g52 hle52 hz6 S52
      have l52 : Le g48 g52 := hle50.trans (hle51.trans hle52)
      have hma52 := hma48.le l52
      have hrows52 := hrows48.rwle l52
      have bi52 : Inst g52 b 516 bd := bi44.le (hle45.trans (hle46.trans (l48.trans l52)))
      have hcel52 : CellAt h52 (s₁.heap.objs.size + 1) (.int ((i + 1 : Nat) : Int) tt) := ⟨occ5, (S52.mem.hold _ cel46).1, oC5⟩
      refine r_neE R (hma52.le S52.le) (hz6.le S52.le) ?_
      (with_reducible refine wpAny_truthy_bool ?_; refine if_ndec ?_ ?_ <;> intro _; refine isTrue_and ?_; refine wpAny_isTrue_Compare1 ?_ (by with_unfolding_all rfl); refine Attribute_any_ ?_ (by with_unfolding_all rfl); refine r_locE ‹_› ‹_› (by kun_count) ?_; refine' r_get ?a193x1 ?a193x2 ?a193x3 ?a193x4 ?a193x5 ?a193x6 ?a193x7 ?_; (case a193x1 => assumption); (case a193x2 => assumption); (case a193x4 => kso_lit); (case a193x3 => exact co_Buffer); (case a193x5 => kso_lit); (case a193x6 => kic_val); (case a193x7 => with_unfolding_all rfl); refine Subscript_ ?_; refine Subscript_ ?_; refine r_locE ‹_› ‹_› (by kun_count) ?_; refine r_int ?_; rotate_left; refine if_f ?_; refine wpAny_execs_nil ?_; refine x_next ?_; refine wpAny_execs_nil ?_; refine OpQ.out ‹_› ?_; rotate_left)
      · obtain ⟨r0, hr0⟩ : ∃ r0, rows[0]? = some r0 := ⟨_, List.getElem?_eq_getElem (show 0 < rows.length by (first | lia | omega))⟩
        obtain ⟨_, hv0, q0, t0, u0, rfl, hq0⟩ := hrows52.get hr0
        have hv0 : vm[(0 : Int).toNat]? = some (.ref q0) := hv0
        obtain ⟨tk8, hv9⟩ := hmk r0.x t0 u0 r0
        (with_reducible refine' r_item ?a194x1 ?a194x2 ?a194x3 ?_ ?a194x4; (case a194x4 => with_unfolding_all rfl); (case a194x1 => kso_lit); (case a194x3 => assumption); (case a194x2 => kpa_letter); refine r_cellE ‹_› (by lks_lit) (by kso_lit) ?_; refine' r_item ?a195x1 ?a195x2 ?a195x3 ?_ ?a195x4; (case a195x4 => with_unfolding_all rfl); (case a195x1 => kso_lit); (case a195x3 => assumption); (case a195x2 => kpa_letter); refine r_ne ?_; refine wpAny_truthy_bool ?_; refine if_ndec ?_ ?_ <;> intro _; refine isTrue_and_nil ?_; refine if_t ?_; refine x_cons ?_; refine wpAny_Return_some ?_; refine wpAny_Constant_bool ?_; refine x_ret ?_; refine x_ret ?_; refine OpQ.out ‹_› ?_; rotate_left; refine if_f ?_; refine wpAny_execs_nil ?_; refine x_next ?_; refine wpAny_execs_nil ?_; refine OpQ.out ‹_› ?_; rotate_left)
        · exfalso
          rename_i hne
          exact hne (hp6' r0 hr0)
        · exact ⟨g52, h52, _, _, (d, od13) :: (s₁.heap.objs.size + 1, occ5) :: (bd, ob6) :: (td, ot6) :: (c, cc6) :: (rwd, orw13) :: mks6, rfl, l46.trans (l48.trans l52), S52.perm (permC _ _ _ _ _ _ _ _).symm, ob6, p6, l6, occ5, _, ot6, cc6, mks6, b1, b2, b3, b4, b5, _, _, _, rfl, rfl, oC5, by rw [cB]; exact bo6, by rw [cB]; exact tx6, mo6, pos6, tab6.trans tab5, num6.trans num5, fun m hm => (mi6 m hm).le (l46.trans (l48.trans l52)), hp6'⟩
      · exact ⟨g52, h52, _, _, (d, od13) :: (s₁.heap.objs.size + 1, occ5) :: (bd, ob6) :: (td, ot6) :: (c, cc6) :: (rwd, orw13) :: mks6, rfl, l46.trans (l48.trans l52), S52.perm (permC _ _ _ _ _ _ _ _).symm, ob6, p6, l6, occ5, _, ot6, cc6, mks6, b1, b2, b3, b4, b5, _, _, _, rfl, rfl, oC5, by rw [cB]; exact bo6, by rw [cB]; exact tx6, mo6, pos6, tab6.trans tab5, num6.trans num5, fun m hm => (mi6 m hm).le (l46.trans (l48.trans l52)), hp6'⟩
    · rintro g60 h60 tk60 _ _ hle60 S60 _
      (with_reducible refine x_next ?_; refine x_cons ?_; refine wpAny_Return_some ?_; refine wpAny_Constant_bool ?_; refine x_ret ?_)
      exact ⟨rfl, h60, _, _, rfl, S60.fr⟩
  · rintro fl s' ⟨rfl, h', tk', m, rfl, F'⟩
    show GoodW _ _ _ _ _ (.ok (.ret (.bool _))) _
    refine goodW_bool F' hg (raisesW_false ?_) ?_
    · wrow_none_raised
    · wrow_post
end Mine
theorem PySem.Challenge.cw_up0005_01_holds : PySem.Challenge.rw_up0005_01.Holds := by
  exact Mine.A
