/- What functions of the program compute, each as a plain function, and that they do. Conditions: as each theorem states them. -/
import Derived.Test.YtoiacoiccpiciaaMemberOfZkF2
namespace Go.Proofs.Ytoiacoiccpiciaa.Zk
open Go Go.RowKit Go.IntWalk Go.Proofs
set_option linter.unusedVariables false
set_option linter.unusedSimpArgs false
set_option maxRecDepth 100000
set_option maxHeartbeats 4000000
def laws_FnExactMemberOf.f (k : Nat) (x0 : List Member) (x1 : Int) : Option Bool := ((laws_szMemberS.f k x0 1048576).bind fun t1875 => (bif (decide (t1875 < 0)) then some true else ((laws_toMemberS.f k x0).bind fun t1880 => ((spec_MemberOf.f k t1880 x1).bind fun t1884 => ((laws_toMemberS.f k x0).bind fun t1895 => ((impl_MemberOf.f k t1895 x1).bind fun t1900 => ((laws_eqMembersResult.f k t1900 t1884).bind fun t1913 => (bif !t1913 then some false else ((laws_toMemberS.f k x0).bind fun t1924 => ((laws_eqMemberS.f k t1895 t1924).bind fun t1928 => (bif !t1928 then some false else ((laws_markMemberS.f k t1895 1).bind fun t1933 => ((bif (!(decide (t1933.1 < 0))) then laws_eqMembersResult.f k t1900 t1884 else some default).bind fun t1945 => (bif ((decide (t1933.1 < 0)) || (!t1945)) then some false else ((laws_markMembersResult.f k t1900 1).bind fun t1952 => ((laws_heldMembersResult.f k (⟨t1900.fCode, t1952.2⟩ : MembersResult) 1).bind fun t1961 => (bif (decide (t1961 < 0)) then some false else (bif (t1961 != t1952.1) then some false else ((laws_toMemberS.f k x0).bind fun t1968 => ((impl_MemberOf.f k t1968 x1).bind fun t1972 => ((laws_eqMembersResult.f k t1972 t1884).bind fun t1986 => (bif !t1986 then some false else ((laws_heldMembersResult.f k (⟨t1900.fCode, t1952.2⟩ : MembersResult) 1).bind fun t1990 => (bif (decide (t1990 < 0)) then some false else (bif (t1990 != t1952.1) then some false else some true)))))))))))))))))))))))))
theorem laws_FnExactMemberOf.calls {k : Nat} {x0 : List Member} {x1 : Int} {p0 : Value} {w : World} (hp0 : RdS kMember w p0 x0) {r : Bool} (H : laws_FnExactMemberOf.f k x0 x1 = some r) :
    Calls Try.prog 14 ([p0, .int .i64 x1] : List Value).toArray w (fun e w_ => ∃ v, e = .returned v ∧ v = (.bool r) ∧ Mem w [] w_ []) := by
  have HM := Mem.start w
  refine calls_run (N := 74) Try.func14 rfl rfl rfl rfl ?_
  unfold laws_FnExactMemberOf.f at H
  refine run_seq ?_
  refine run_region rfl ?_
  refine ops_ex rfl (guard_none rfl) rfl rfl (ex_assign rfl rfl) ?_
  refine ops_nil ?_
  refine at_then ?_
  refine run_seq ?_
  refine run_region rfl ?_
  refine ops_ex rfl (guard_none rfl) rfl rfl (ex_assign rfl rfl) ?_
  refine ops_nil ?_
  refine at_then ?_
  refine run_seq ?_
  obtain ⟨t1875, h1876, H⟩ := bind_some H
  refine run_region rfl ?_
  refine ops_ex rfl (guard_none rfl) rfl rfl (ex_move rfl rfl) ?_
  refine ops_ex rfl (guard_none rfl) rfl rfl (ex_move rfl rfl) ?_
  refine ops_does rfl (guard_none rfl) rfl rfl (does_callk rfl callok48 rfl (laws_szMemberS.calls (x0 := x0) (x1 := 1048576) (HM.rd hp0) h1876)) ?_
  rintro _ w1877 ⟨rfl, hn⟩
  replace HM : Mem w [] w1877 [] := HM.call hn
  refine ops_ex rfl (guard_none rfl) rfl rfl (ex_assign rfl rfl) ?_
  refine ops_nil ?_
  refine at_then ?_
  refine run_seq ?_
  refine run_seq ?_
  refine run_region rfl ?_
  refine ops_ex rfl (guard_none rfl) rfl rfl (ex_move rfl rfl) ?_
  refine ops_ex rfl (guard_none rfl) rfl rfl (ex_lss rfl rfl rfl) ?_
  refine ops_nil ?_
  refine at_then ?_
  refine run_cond (b := (decide (t1875 < 0))) rfl (fun hb1879 => ?_) (fun hb1879 => ?_)
  · replace H := cond_t hb1879 H
    refine run_seq ?_
    refine run_region rfl ?_
    refine ops_ex rfl (guard_none rfl) rfl rfl (ex_assign rfl rfl) ?_
    refine ops_nil ?_
    refine at_then ?_
    refine run_ret ?_
    refine at_then_ret ?_
    have hR := Option.some.inj H
    subst hR
    exact at_ret1 rfl rfl ⟨_, rfl, rfl, HM⟩
  · replace H := cond_f hb1879 H
    refine run_skip ?_
    refine at_then ?_
    refine run_seq ?_
    obtain ⟨t1880, h1881, H⟩ := bind_some H
    obtain ⟨t1884, h1885, H⟩ := bind_some H
    refine run_region rfl ?_
    refine ops_ex rfl (guard_none rfl) rfl rfl (ex_move rfl rfl) ?_
    refine ops_does rfl (guard_none rfl) rfl rfl (does_callk rfl callok50 rfl (laws_toMemberS.calls (x0 := x0) (HM.rd hp0) h1881)) ?_
    rintro u1882 w1891 ⟨_, rfl, hn⟩
    replace HM : Mem w [] w1891 [own kMember 144 u1882 t1880] := HM.call hn
    refine ops_ex rfl (guard_none rfl) rfl rfl (ex_move rfl rfl) ?_
    refine ops_does rfl (guard_none rfl) rfl rfl (does_callk rfl callok57 rfl (spec_MemberOf.calls (x0 := t1880) (x1 := x1) (HM.own_rd 0 rfl) h1885)) ?_
    rintro _ w1892 ⟨u1886, rfl, hn⟩
    replace HM : Mem w [] w1892 [own kMember 144 u1886 t1884.fMembers, own kMember 144 u1882 t1880] := HM.call hn
    refine ops_does rfl (guard_none rfl) rfl rfl (does_alloc (cs := [.int .i64 0, .slice none 0 0]) rfl tz85 rfl HM) ?_
    rintro _ w1893 ⟨b1888, rfl, HM⟩
    refine ops_doesS rfl (guard_none rfl) rfl (does_store (vs := [.int .i64 t1884.fCode, u1886]) (cs' := [.int .i64 t1884.fCode, u1886]) rfl rfl rfl rfl tsz85 (Ones.int (Ones.rd (HM.own_rd 1 rfl) Ones.nil)) rfl rfl HM) ?_
    rintro w1894 HM
    refine ops_nil ?_
    refine at_then ?_
    refine run_seq ?_
    obtain ⟨t1895, h1896, H⟩ := bind_some H
    refine run_region rfl ?_
    refine ops_ex rfl (guard_none rfl) rfl rfl (ex_move rfl rfl) ?_
    refine ops_does rfl (guard_none rfl) rfl rfl (does_callk rfl callok50 rfl (laws_toMemberS.calls (x0 := x0) (HM.rd hp0) h1896)) ?_
    rintro u1897 w1899 ⟨_, rfl, hn⟩
    replace HM : Mem w [] w1899 [own kMember 144 u1897 t1895, box b1888 85 [.int .i64 t1884.fCode, u1886], own kMember 144 u1886 t1884.fMembers, own kMember 144 u1882 t1880] := HM.call hn
    refine ops_ex rfl (guard_none rfl) rfl rfl (ex_assign rfl rfl) ?_
    refine ops_nil ?_
    refine at_then ?_
    refine run_seq ?_
    obtain ⟨t1900, h1901, H⟩ := bind_some H
    refine run_region rfl ?_
    refine ops_ex rfl (guard_none rfl) rfl rfl (ex_move rfl rfl) ?_
    refine ops_ex rfl (guard_none rfl) rfl rfl (ex_move rfl rfl) ?_
    refine ops_does rfl (guard_none rfl) rfl rfl (does_callk rfl callok58 rfl (impl_MemberOf.calls (x0 := t1895) (x1 := x1) (HM.own_rd 0 rfl) h1901)) ?_
    rintro _ w1907 ⟨u1902, rfl, hn⟩
    replace HM : Mem w [] w1907 [own kMember 144 u1902 t1900.fMembers, own kMember 144 u1897 t1895, box b1888 85 [.int .i64 t1884.fCode, u1886], own kMember 144 u1886 t1884.fMembers, own kMember 144 u1882 t1880] := HM.call hn
    refine ops_does rfl (guard_none rfl) rfl rfl (does_alloc (cs := [.int .i64 0, .slice none 0 0]) rfl tz85 rfl HM) ?_
    rintro _ w1908 ⟨b1904, rfl, HM⟩
    refine ops_doesS rfl (guard_none rfl) rfl (does_store (vs := [.int .i64 t1900.fCode, u1902]) (cs' := [.int .i64 t1900.fCode, u1902]) rfl rfl rfl rfl tsz85 (Ones.int (Ones.rd (HM.own_rd 1 rfl) Ones.nil)) rfl rfl HM) ?_
    rintro w1909 HM
    refine ops_nil ?_
    refine at_then ?_
    refine run_seq ?_
    refine run_seq ?_
    obtain ⟨t1913, h1914, H⟩ := bind_some H
    refine run_region rfl ?_
    refine ops_ex rfl (guard_none rfl) rfl rfl (ex_loadN (cs := [(.int .i64 t1900.fCode), u1902]) rfl rfl Try.underlying85 rfl tsz85 rfl ((HM.box_at 0 rfl).sub 0 2 rfl)) ?_
    refine ops_ex rfl (guard_none rfl) rfl rfl (ex_loadN (cs := [(.int .i64 t1884.fCode), u1886]) rfl rfl Try.underlying85 rfl tsz85 rfl ((HM.box_at 3 rfl).sub 0 2 rfl)) ?_
    refine ops_does rfl (guard_none rfl) rfl rfl (does_callk rfl callok59 rfl (laws_eqMembersResult.calls (x0 := t1900) (x1 := t1884) (HM.own_rd 1 rfl) (HM.own_rd 4 rfl) h1914)) ?_
    rintro _ w1915 ⟨rfl, hn⟩
    replace HM : Mem w [] w1915 [box b1904 85 [.int .i64 t1900.fCode, u1902], own kMember 144 u1902 t1900.fMembers, own kMember 144 u1897 t1895, box b1888 85 [.int .i64 t1884.fCode, u1886], own kMember 144 u1886 t1884.fMembers, own kMember 144 u1882 t1880] := HM.call hn
    refine ops_ex rfl (guard_none rfl) rfl rfl (ex_not rfl rfl) ?_
    refine ops_nil ?_
    refine at_then ?_
    refine run_cond (b := !t1913) rfl (fun hb1916 => ?_) (fun hb1916 => ?_)
    · replace H := cond_t hb1916 H
      refine run_seq ?_
      refine run_region rfl ?_
      refine ops_ex rfl (guard_none rfl) rfl rfl (ex_assign rfl rfl) ?_
      refine ops_nil ?_
      refine at_then ?_
      refine run_ret ?_
      refine at_then_ret ?_
      replace HM := (HM.front 0 rfl rfl).drop
      replace HM := (HM.front 0 rfl rfl).drop
      replace HM := (HM.front 0 rfl rfl).drop
      replace HM := (HM.front 0 rfl rfl).drop
      replace HM := (HM.front 0 rfl rfl).drop
      replace HM := (HM.front 0 rfl rfl).drop
      have hR := Option.some.inj H
      subst hR
      exact at_ret1 rfl rfl ⟨_, rfl, rfl, HM⟩
    · replace H := cond_f hb1916 H
      refine run_skip ?_
      refine at_then ?_
      refine run_seq ?_
      refine run_seq ?_
      obtain ⟨t1924, h1925, H⟩ := bind_some H
      obtain ⟨t1928, h1929, H⟩ := bind_some H
      refine run_region rfl ?_
      refine ops_ex rfl (guard_none rfl) rfl rfl (ex_move rfl rfl) ?_
      refine ops_ex rfl (guard_none rfl) rfl rfl (ex_move rfl rfl) ?_
      refine ops_does rfl (guard_none rfl) rfl rfl (does_callk rfl callok50 rfl (laws_toMemberS.calls (x0 := x0) (HM.rd hp0) h1925)) ?_
      rintro u1926 w1930 ⟨_, rfl, hn⟩
      replace HM : Mem w [] w1930 [own kMember 144 u1926 t1924, box b1904 85 [.int .i64 t1900.fCode, u1902], own kMember 144 u1902 t1900.fMembers, own kMember 144 u1897 t1895, box b1888 85 [.int .i64 t1884.fCode, u1886], own kMember 144 u1886 t1884.fMembers, own kMember 144 u1882 t1880] := HM.call hn
      refine ops_does rfl (guard_none rfl) rfl rfl (does_callk rfl callok53 rfl (laws_eqMemberS.calls (x0 := t1895) (x1 := t1924) (HM.own_rd 3 rfl) (HM.own_rd 0 rfl) h1929)) ?_
      rintro _ w1931 ⟨rfl, hn⟩
      replace HM : Mem w [] w1931 [own kMember 144 u1926 t1924, box b1904 85 [.int .i64 t1900.fCode, u1902], own kMember 144 u1902 t1900.fMembers, own kMember 144 u1897 t1895, box b1888 85 [.int .i64 t1884.fCode, u1886], own kMember 144 u1886 t1884.fMembers, own kMember 144 u1882 t1880] := HM.call hn
      refine ops_ex rfl (guard_none rfl) rfl rfl (ex_not rfl rfl) ?_
      refine ops_nil ?_
      refine at_then ?_
      refine run_cond (b := !t1928) rfl (fun hb1932 => ?_) (fun hb1932 => ?_)
      · replace H := cond_t hb1932 H
        refine run_seq ?_
        refine run_region rfl ?_
        refine ops_ex rfl (guard_none rfl) rfl rfl (ex_assign rfl rfl) ?_
        refine ops_nil ?_
        refine at_then ?_
        refine run_ret ?_
        refine at_then_ret ?_
        replace HM := (HM.front 0 rfl rfl).drop
        replace HM := (HM.front 0 rfl rfl).drop
        replace HM := (HM.front 0 rfl rfl).drop
        replace HM := (HM.front 0 rfl rfl).drop
        replace HM := (HM.front 0 rfl rfl).drop
        replace HM := (HM.front 0 rfl rfl).drop
        replace HM := (HM.front 0 rfl rfl).drop
        have hR := Option.some.inj H
        subst hR
        exact at_ret1 rfl rfl ⟨_, rfl, rfl, HM⟩
      · replace H := cond_f hb1932 H
        refine run_skip ?_
        refine at_then ?_
        refine run_seq ?_
        refine run_region rfl ?_
        refine ops_ex rfl (guard_none rfl) rfl rfl (ex_assign rfl rfl) ?_
        refine ops_nil ?_
        refine at_then ?_
        refine run_seq ?_
        obtain ⟨t1933, h1934, H⟩ := bind_some H
        refine run_region rfl ?_
        refine ops_ex rfl (guard_none rfl) rfl rfl (ex_move rfl rfl) ?_
        refine ops_ex rfl (guard_none rfl) rfl rfl (ex_move rfl rfl) ?_
        replace HM := HM.front 3 rfl rfl
        obtain ⟨F1935, hF1936, hFn1937, hFl1938, HMh1939, hcl1940⟩ := HM.hide (Ms := [own kMember 144 u1897 t1895])
        refine ops_does rfl (guard_none rfl) rfl rfl (does_callk rfl callok54 rfl (laws_markMemberS.calls (x0 := t1895) (x1 := 1) (hide_olds _ _) hF1936 hFn1937 hFl1938 h1934)) ?_
        rintro _ w1941 ⟨rfl, hn⟩
        replace HM : Mem w [] w1941 [own kMember 144 u1897 t1933.2, own kMember 144 u1926 t1924, box b1904 85 [.int .i64 t1900.fCode, u1902], own kMember 144 u1902 t1900.fMembers, box b1888 85 [.int .i64 t1884.fCode, u1886], own kMember 144 u1886 t1884.fMembers, own kMember 144 u1882 t1880] := hcl1940 _ _ hn
        refine ops_ex rfl (guard_none rfl) rfl rfl (ex_assign rfl rfl) ?_
        refine ops_nil ?_
        refine at_then ?_
        refine run_seq ?_
        refine run_seq ?_
        obtain ⟨t1945, h1946, H⟩ := bind_some H
        refine run_meet (fun ρ_ w_ => ρ_ = [(0, p0), (1, .int .i64 x1), (6, .pointer (some ⟨b1888, 0, none⟩)), (8, .pointer (some ⟨b1904, 0, none⟩)), (46, .bool ((decide (t1933.1 < 0)) || (!t1945)))] ∧ Mem w [] w_ [box b1888 85 [.int .i64 t1884.fCode, u1886], own kMember 144 u1886 t1884.fMembers, box b1904 85 [.int .i64 t1900.fCode, u1902], own kMember 144 u1902 t1900.fMembers]) ?_ ?_
        · skip
          refine run_region rfl ?_
          refine ops_ex rfl (guard_none rfl) rfl rfl (ex_move rfl rfl) ?_
          refine ops_ex rfl (guard_none rfl) rfl rfl (ex_lss rfl rfl rfl) ?_
          refine ops_ex rfl (guard_none rfl) rfl rfl (ex_move rfl rfl) ?_
          refine bool_cases (decide (t1933.1 < 0)) (fun hg1947 => ?_) (fun hg1947 => ?_)
          · skip
            refine ops_off rfl (guard_off rfl rfl rfl hg1947) rfl rfl ?_
            refine ops_off rfl (guard_off rfl rfl rfl hg1947) rfl rfl ?_
            refine ops_off rfl (guard_off rfl rfl rfl hg1947) rfl rfl ?_
            refine ops_off rfl (guard_off rfl rfl rfl hg1947) rfl rfl ?_
            have hg1948 : ((decide (t1933.1 < 0)) || (!t1945)) = true := by simp only [hg1947, Bool.and_true, Bool.true_and, Bool.and_false, Bool.false_and, Bool.or_true, Bool.true_or, Bool.or_false, Bool.false_or, Bool.not_true, Bool.not_false, Bool.not_not]
            refine ops_ex (v := .bool ((decide (t1933.1 < 0)) || (!t1945))) rfl (guard_none rfl) rfl rfl (ex_por_t rfl rfl hg1947) ?_
            refine ops_nil ?_
            replace HM := (HM.front 0 rfl rfl).drop
            replace HM := (HM.front 0 rfl rfl).drop
            replace HM := (HM.front 4 rfl rfl).drop
            replace HM := HM.front 1 rfl rfl
            replace HM := HM.front 1 rfl rfl
            replace HM := HM.front 3 rfl rfl
            replace HM := HM.front 3 rfl rfl
            exact at_meet [(0, p0), (1, .int .i64 x1), (6, .pointer (some ⟨b1888, 0, none⟩)), (8, .pointer (some ⟨b1904, 0, none⟩)), (46, .bool ((decide (t1933.1 < 0)) || (!t1945)))] ⟨rfl, HM⟩ (Sub.cons rfl (Sub.cons rfl (Sub.cons rfl (Sub.cons rfl (Sub.cons rfl Sub.nil)))))
          · skip
            refine ops_ex rfl (guard_on rfl rfl rfl hg1947) rfl rfl (ex_loadN (cs := [(.int .i64 t1900.fCode), u1902]) rfl rfl Try.underlying85 rfl tsz85 rfl ((HM.box_at 2 rfl).sub 0 2 rfl)) ?_
            refine ops_ex rfl (guard_on rfl rfl rfl hg1947) rfl rfl (ex_loadN (cs := [(.int .i64 t1884.fCode), u1886]) rfl rfl Try.underlying85 rfl tsz85 rfl ((HM.box_at 4 rfl).sub 0 2 rfl)) ?_
            refine ops_does rfl (guard_on rfl rfl rfl hg1947) rfl rfl (does_callk rfl callok59 rfl (laws_eqMembersResult.calls (x0 := t1900) (x1 := t1884) (HM.own_rd 3 rfl) (HM.own_rd 5 rfl) (cond_t (not_mk hg1947) h1946))) ?_
            rintro _ w1949 ⟨rfl, hn⟩
            replace HM : Mem w [] w1949 [own kMember 144 u1897 t1933.2, own kMember 144 u1926 t1924, box b1904 85 [.int .i64 t1900.fCode, u1902], own kMember 144 u1902 t1900.fMembers, box b1888 85 [.int .i64 t1884.fCode, u1886], own kMember 144 u1886 t1884.fMembers, own kMember 144 u1882 t1880] := HM.call hn
            refine ops_ex rfl (guard_on rfl rfl rfl hg1947) rfl rfl (ex_not rfl rfl) ?_
            refine ops_ex (v := .bool ((decide (t1933.1 < 0)) || (!t1945))) rfl (guard_none rfl) rfl rfl (ex_por_f rfl rfl hg1947 rfl) ?_
            refine ops_nil ?_
            replace HM := (HM.front 0 rfl rfl).drop
            replace HM := (HM.front 0 rfl rfl).drop
            replace HM := (HM.front 4 rfl rfl).drop
            replace HM := HM.front 1 rfl rfl
            replace HM := HM.front 1 rfl rfl
            replace HM := HM.front 3 rfl rfl
            replace HM := HM.front 3 rfl rfl
            exact at_meet [(0, p0), (1, .int .i64 x1), (6, .pointer (some ⟨b1888, 0, none⟩)), (8, .pointer (some ⟨b1904, 0, none⟩)), (46, .bool ((decide (t1933.1 < 0)) || (!t1945)))] ⟨rfl, HM⟩ (Sub.cons rfl (Sub.cons rfl (Sub.cons rfl (Sub.cons rfl (Sub.cons rfl Sub.nil)))))
        · rintro _ w1950 ⟨rfl, HM⟩
          refine at_then ?_
          refine run_cond (b := ((decide (t1933.1 < 0)) || (!t1945))) rfl (fun hb1951 => ?_) (fun hb1951 => ?_)
          · replace H := cond_t hb1951 H
            refine run_seq ?_
            refine run_region rfl ?_
            refine ops_ex rfl (guard_none rfl) rfl rfl (ex_assign rfl rfl) ?_
            refine ops_nil ?_
            refine at_then ?_
            refine run_ret ?_
            refine at_then_ret ?_
            replace HM := (HM.front 0 rfl rfl).drop
            replace HM := (HM.front 0 rfl rfl).drop
            replace HM := (HM.front 0 rfl rfl).drop
            replace HM := (HM.front 0 rfl rfl).drop
            have hR := Option.some.inj H
            subst hR
            exact at_ret1 rfl rfl ⟨_, rfl, rfl, HM⟩
          · replace H := cond_f hb1951 H
            refine run_skip ?_
            refine at_then ?_
            refine run_seq ?_
            refine run_region rfl ?_
            refine ops_ex rfl (guard_none rfl) rfl rfl (ex_assign rfl rfl) ?_
            refine ops_nil ?_
            refine at_then ?_
            refine run_seq ?_
            obtain ⟨t1952, h1953, H⟩ := bind_some H
            refine run_region rfl ?_
            refine ops_ex rfl (guard_none rfl) rfl rfl (ex_loadN (cs := [(.int .i64 t1900.fCode), u1902]) rfl rfl Try.underlying85 rfl tsz85 rfl ((HM.box_at 2 rfl).sub 0 2 rfl)) ?_
            refine ops_ex rfl (guard_none rfl) rfl rfl (ex_move rfl rfl) ?_
            replace HM := HM.front 3 rfl rfl
            obtain ⟨F1954, hF1955, hFn1956, hFl1957, HMh1958, hcl1959⟩ := HM.hide (Ms := [own kMember 144 u1902 t1900.fMembers])
            refine ops_does rfl (guard_none rfl) rfl rfl (does_callk rfl callok60 rfl (laws_markMembersResult.calls (x0 := t1900) (x1 := 1) (hide_olds _ _) hF1955 hFn1956 hFl1957 h1953)) ?_
            rintro _ w1960 ⟨rfl, hn⟩
            replace HM : Mem w [] w1960 [own kMember 144 u1902 t1952.2, box b1888 85 [.int .i64 t1884.fCode, u1886], own kMember 144 u1886 t1884.fMembers, box b1904 85 [.int .i64 t1900.fCode, u1902]] := hcl1959 _ _ hn
            refine ops_ex rfl (guard_none rfl) rfl rfl (ex_assign rfl rfl) ?_
            refine ops_nil ?_
            refine at_then ?_
            refine run_seq ?_
            refine run_region rfl ?_
            refine ops_ex rfl (guard_none rfl) rfl rfl (ex_assign rfl rfl) ?_
            refine ops_nil ?_
            refine at_then ?_
            refine run_seq ?_
            obtain ⟨t1961, h1962, H⟩ := bind_some H
            refine run_region rfl ?_
            refine ops_ex rfl (guard_none rfl) rfl rfl (ex_loadN (cs := [(.int .i64 t1900.fCode), u1902]) rfl rfl Try.underlying85 rfl tsz85 rfl ((HM.box_at 3 rfl).sub 0 2 rfl)) ?_
            refine ops_ex rfl (guard_none rfl) rfl rfl (ex_move rfl rfl) ?_
            refine ops_does rfl (guard_none rfl) rfl rfl (does_callk rfl callok61 rfl (laws_heldMembersResult.calls (x0 := (⟨t1900.fCode, t1952.2⟩ : MembersResult)) (x1 := 1) (HM.own_rd 0 rfl) h1962)) ?_
            rintro _ w1963 ⟨rfl, hn⟩
            replace HM : Mem w [] w1963 [own kMember 144 u1902 t1952.2, box b1888 85 [.int .i64 t1884.fCode, u1886], own kMember 144 u1886 t1884.fMembers, box b1904 85 [.int .i64 t1900.fCode, u1902]] := HM.call hn
            refine ops_ex rfl (guard_none rfl) rfl rfl (ex_assign rfl rfl) ?_
            refine ops_nil ?_
            refine at_then ?_
            refine run_seq ?_
            refine run_seq ?_
            refine run_region rfl ?_
            refine ops_ex rfl (guard_none rfl) rfl rfl (ex_move rfl rfl) ?_
            refine ops_ex rfl (guard_none rfl) rfl rfl (ex_lss rfl rfl rfl) ?_
            refine ops_nil ?_
            refine at_then ?_
            refine run_cond (b := (decide (t1961 < 0))) rfl (fun hb1965 => ?_) (fun hb1965 => ?_)
            · replace H := cond_t hb1965 H
              refine run_seq ?_
              refine run_region rfl ?_
              refine ops_ex rfl (guard_none rfl) rfl rfl (ex_assign rfl rfl) ?_
              refine ops_nil ?_
              refine at_then ?_
              refine run_ret ?_
              refine at_then_ret ?_
              replace HM := (HM.front 0 rfl rfl).drop
              replace HM := (HM.front 0 rfl rfl).drop
              replace HM := (HM.front 0 rfl rfl).drop
              replace HM := (HM.front 0 rfl rfl).drop
              have hR := Option.some.inj H
              subst hR
              exact at_ret1 rfl rfl ⟨_, rfl, rfl, HM⟩
            · replace H := cond_f hb1965 H
              refine run_skip ?_
              refine at_then ?_
              refine run_seq ?_
              refine run_seq ?_
              refine run_region rfl ?_
              refine ops_ex rfl (guard_none rfl) rfl rfl (ex_move rfl rfl) ?_
              refine ops_ex rfl (guard_none rfl) rfl rfl (ex_move rfl rfl) ?_
              refine ops_ex rfl (guard_none rfl) rfl rfl (ex_neq rfl rfl rfl) ?_
              refine ops_nil ?_
              refine at_then ?_
              refine run_cond (b := (t1961 != t1952.1)) rfl (fun hb1967 => ?_) (fun hb1967 => ?_)
              · replace H := cond_t hb1967 H
                refine run_seq ?_
                refine run_region rfl ?_
                refine ops_ex rfl (guard_none rfl) rfl rfl (ex_assign rfl rfl) ?_
                refine ops_nil ?_
                refine at_then ?_
                refine run_ret ?_
                refine at_then_ret ?_
                replace HM := (HM.front 0 rfl rfl).drop
                replace HM := (HM.front 0 rfl rfl).drop
                replace HM := (HM.front 0 rfl rfl).drop
                replace HM := (HM.front 0 rfl rfl).drop
                have hR := Option.some.inj H
                subst hR
                exact at_ret1 rfl rfl ⟨_, rfl, rfl, HM⟩
              · replace H := cond_f hb1967 H
                refine run_skip ?_
                refine at_then ?_
                refine run_seq ?_
                obtain ⟨t1968, h1969, H⟩ := bind_some H
                obtain ⟨t1972, h1973, H⟩ := bind_some H
                refine run_region rfl ?_
                refine ops_ex rfl (guard_none rfl) rfl rfl (ex_move rfl rfl) ?_
                refine ops_does rfl (guard_none rfl) rfl rfl (does_callk rfl callok50 rfl (laws_toMemberS.calls (x0 := x0) (HM.rd hp0) h1969)) ?_
                rintro u1970 w1979 ⟨_, rfl, hn⟩
                replace HM : Mem w [] w1979 [own kMember 144 u1970 t1968, own kMember 144 u1902 t1952.2, box b1888 85 [.int .i64 t1884.fCode, u1886], own kMember 144 u1886 t1884.fMembers, box b1904 85 [.int .i64 t1900.fCode, u1902]] := HM.call hn
                refine ops_ex rfl (guard_none rfl) rfl rfl (ex_move rfl rfl) ?_
                refine ops_does rfl (guard_none rfl) rfl rfl (does_callk rfl callok58 rfl (impl_MemberOf.calls (x0 := t1968) (x1 := x1) (HM.own_rd 0 rfl) h1973)) ?_
                rintro _ w1980 ⟨u1974, rfl, hn⟩
                replace HM : Mem w [] w1980 [own kMember 144 u1974 t1972.fMembers, own kMember 144 u1970 t1968, own kMember 144 u1902 t1952.2, box b1888 85 [.int .i64 t1884.fCode, u1886], own kMember 144 u1886 t1884.fMembers, box b1904 85 [.int .i64 t1900.fCode, u1902]] := HM.call hn
                refine ops_does rfl (guard_none rfl) rfl rfl (does_alloc (cs := [.int .i64 0, .slice none 0 0]) rfl tz85 rfl HM) ?_
                rintro _ w1981 ⟨b1976, rfl, HM⟩
                refine ops_doesS rfl (guard_none rfl) rfl (does_store (vs := [.int .i64 t1972.fCode, u1974]) (cs' := [.int .i64 t1972.fCode, u1974]) rfl rfl rfl rfl tsz85 (Ones.int (Ones.rd (HM.own_rd 1 rfl) Ones.nil)) rfl rfl HM) ?_
                rintro w1982 HM
                refine ops_nil ?_
                refine at_then ?_
                refine run_seq ?_
                refine run_seq ?_
                obtain ⟨t1986, h1987, H⟩ := bind_some H
                refine run_region rfl ?_
                refine ops_ex rfl (guard_none rfl) rfl rfl (ex_loadN (cs := [(.int .i64 t1972.fCode), u1974]) rfl rfl Try.underlying85 rfl tsz85 rfl ((HM.box_at 0 rfl).sub 0 2 rfl)) ?_
                refine ops_ex rfl (guard_none rfl) rfl rfl (ex_loadN (cs := [(.int .i64 t1884.fCode), u1886]) rfl rfl Try.underlying85 rfl tsz85 rfl ((HM.box_at 4 rfl).sub 0 2 rfl)) ?_
                refine ops_does rfl (guard_none rfl) rfl rfl (does_callk rfl callok59 rfl (laws_eqMembersResult.calls (x0 := t1972) (x1 := t1884) (HM.own_rd 1 rfl) (HM.own_rd 5 rfl) h1987)) ?_
                rintro _ w1988 ⟨rfl, hn⟩
                replace HM : Mem w [] w1988 [box b1976 85 [.int .i64 t1972.fCode, u1974], own kMember 144 u1974 t1972.fMembers, own kMember 144 u1970 t1968, own kMember 144 u1902 t1952.2, box b1888 85 [.int .i64 t1884.fCode, u1886], own kMember 144 u1886 t1884.fMembers, box b1904 85 [.int .i64 t1900.fCode, u1902]] := HM.call hn
                refine ops_ex rfl (guard_none rfl) rfl rfl (ex_not rfl rfl) ?_
                refine ops_nil ?_
                refine at_then ?_
                refine run_cond (b := !t1986) rfl (fun hb1989 => ?_) (fun hb1989 => ?_)
                · replace H := cond_t hb1989 H
                  refine run_seq ?_
                  refine run_region rfl ?_
                  refine ops_ex rfl (guard_none rfl) rfl rfl (ex_assign rfl rfl) ?_
                  refine ops_nil ?_
                  refine at_then ?_
                  refine run_ret ?_
                  refine at_then_ret ?_
                  replace HM := (HM.front 0 rfl rfl).drop
                  replace HM := (HM.front 0 rfl rfl).drop
                  replace HM := (HM.front 0 rfl rfl).drop
                  replace HM := (HM.front 0 rfl rfl).drop
                  replace HM := (HM.front 0 rfl rfl).drop
                  replace HM := (HM.front 0 rfl rfl).drop
                  replace HM := (HM.front 0 rfl rfl).drop
                  have hR := Option.some.inj H
                  subst hR
                  exact at_ret1 rfl rfl ⟨_, rfl, rfl, HM⟩
                · replace H := cond_f hb1989 H
                  refine run_skip ?_
                  refine at_then ?_
                  refine run_seq ?_
                  refine run_region rfl ?_
                  refine ops_ex rfl (guard_none rfl) rfl rfl (ex_assign rfl rfl) ?_
                  refine ops_nil ?_
                  refine at_then ?_
                  refine run_seq ?_
                  obtain ⟨t1990, h1991, H⟩ := bind_some H
                  refine run_region rfl ?_
                  refine ops_ex rfl (guard_none rfl) rfl rfl (ex_loadN (cs := [(.int .i64 t1900.fCode), u1902]) rfl rfl Try.underlying85 rfl tsz85 rfl ((HM.box_at 6 rfl).sub 0 2 rfl)) ?_
                  refine ops_ex rfl (guard_none rfl) rfl rfl (ex_move rfl rfl) ?_
                  refine ops_does rfl (guard_none rfl) rfl rfl (does_callk rfl callok61 rfl (laws_heldMembersResult.calls (x0 := (⟨t1900.fCode, t1952.2⟩ : MembersResult)) (x1 := 1) (HM.own_rd 3 rfl) h1991)) ?_
                  rintro _ w1992 ⟨rfl, hn⟩
                  replace HM : Mem w [] w1992 [box b1976 85 [.int .i64 t1972.fCode, u1974], own kMember 144 u1974 t1972.fMembers, own kMember 144 u1970 t1968, own kMember 144 u1902 t1952.2, box b1888 85 [.int .i64 t1884.fCode, u1886], own kMember 144 u1886 t1884.fMembers, box b1904 85 [.int .i64 t1900.fCode, u1902]] := HM.call hn
                  refine ops_ex rfl (guard_none rfl) rfl rfl (ex_assign rfl rfl) ?_
                  refine ops_nil ?_
                  refine at_then ?_
                  refine run_seq ?_
                  refine run_seq ?_
                  refine run_region rfl ?_
                  refine ops_ex rfl (guard_none rfl) rfl rfl (ex_move rfl rfl) ?_
                  refine ops_ex rfl (guard_none rfl) rfl rfl (ex_lss rfl rfl rfl) ?_
                  refine ops_nil ?_
                  refine at_then ?_
                  refine run_cond (b := (decide (t1990 < 0))) rfl (fun hb1994 => ?_) (fun hb1994 => ?_)
                  · replace H := cond_t hb1994 H
                    refine run_seq ?_
                    refine run_region rfl ?_
                    refine ops_ex rfl (guard_none rfl) rfl rfl (ex_assign rfl rfl) ?_
                    refine ops_nil ?_
                    refine at_then ?_
                    refine run_ret ?_
                    refine at_then_ret ?_
                    replace HM := (HM.front 0 rfl rfl).drop
                    replace HM := (HM.front 0 rfl rfl).drop
                    replace HM := (HM.front 0 rfl rfl).drop
                    replace HM := (HM.front 0 rfl rfl).drop
                    replace HM := (HM.front 0 rfl rfl).drop
                    replace HM := (HM.front 0 rfl rfl).drop
                    replace HM := (HM.front 0 rfl rfl).drop
                    have hR := Option.some.inj H
                    subst hR
                    exact at_ret1 rfl rfl ⟨_, rfl, rfl, HM⟩
                  · replace H := cond_f hb1994 H
                    refine run_skip ?_
                    refine at_then ?_
                    refine run_seq ?_
                    refine run_seq ?_
                    refine run_region rfl ?_
                    refine ops_ex rfl (guard_none rfl) rfl rfl (ex_move rfl rfl) ?_
                    refine ops_ex rfl (guard_none rfl) rfl rfl (ex_move rfl rfl) ?_
                    refine ops_ex rfl (guard_none rfl) rfl rfl (ex_neq rfl rfl rfl) ?_
                    refine ops_nil ?_
                    refine at_then ?_
                    refine run_cond (b := (t1990 != t1952.1)) rfl (fun hb1995 => ?_) (fun hb1995 => ?_)
                    · replace H := cond_t hb1995 H
                      refine run_seq ?_
                      refine run_region rfl ?_
                      refine ops_ex rfl (guard_none rfl) rfl rfl (ex_assign rfl rfl) ?_
                      refine ops_nil ?_
                      refine at_then ?_
                      refine run_ret ?_
                      refine at_then_ret ?_
                      replace HM := (HM.front 0 rfl rfl).drop
                      replace HM := (HM.front 0 rfl rfl).drop
                      replace HM := (HM.front 0 rfl rfl).drop
                      replace HM := (HM.front 0 rfl rfl).drop
                      replace HM := (HM.front 0 rfl rfl).drop
                      replace HM := (HM.front 0 rfl rfl).drop
                      replace HM := (HM.front 0 rfl rfl).drop
                      have hR := Option.some.inj H
                      subst hR
                      exact at_ret1 rfl rfl ⟨_, rfl, rfl, HM⟩
                    · replace H := cond_f hb1995 H
                      refine run_skip ?_
                      refine at_then ?_
                      refine run_seq ?_
                      refine run_region rfl ?_
                      refine ops_ex rfl (guard_none rfl) rfl rfl (ex_assign rfl rfl) ?_
                      refine ops_nil ?_
                      refine at_then ?_
                      refine run_ret ?_
                      replace HM := (HM.front 0 rfl rfl).drop
                      replace HM := (HM.front 0 rfl rfl).drop
                      replace HM := (HM.front 0 rfl rfl).drop
                      replace HM := (HM.front 0 rfl rfl).drop
                      replace HM := (HM.front 0 rfl rfl).drop
                      replace HM := (HM.front 0 rfl rfl).drop
                      replace HM := (HM.front 0 rfl rfl).drop
                      have hR := Option.some.inj H
                      subst hR
                      exact at_ret1 rfl rfl ⟨_, rfl, rfl, HM⟩
end Go.Proofs.Ytoiacoiccpiciaa.Zk
