import Derived.Test.YthcddikjnpbnjaaGreatDoorYFPSpec
set_option linter.all false
namespace Go.Sx.T
open Go Go.Sx
def FeedNone_8_B  {α : Type} (kx : Nat → List Leaf → Option α) (kr : List Leaf → Option α) (again : List Bool → List Int → List Int → List Int → List Int → List Bool → List Int → Int → Bool → Int → Int → Int → Int → Bool → Int → Int → Int → Int → Int → Int → Int → Option α) (swaps : List Bool) (l : List Int) (f_got_k : List Int) (f_got_v : List Int) (f_lost_k : List Int) (f_lost_v : List Bool) (f_closed : List Int) (f_r : Int) (f_any : Bool) (f_now : Int) (f_first : Int) (f_newest : Int) (f_count : Int) (f_event : Bool) (f_eventAt : Int) (f_eventN : Int) (f_bytes : Int) (f_since : Int) (i : Int) (first : Int) (n2 : Int) : Option α :=
  br (decide (i < n2))
    (out (ref_Step first i) fun r1398 =>
     un_i r1398 fun x1399 r1400 =>
     un_nil r1400 <|
     chk (decide (Int.ofNat (List.length l) = Int.ofNat (List.length l)) && true && decide ((Int.ofNat (List.length l) + (↑(1 : Nat) : Int)) * (↑(nat_lit 8) : Int) ≤ (140737488355328 : Int) ∧ Int.ofNat (List.length l) + (↑(1 : Nat) : Int) ≤ (4611686018427387904 : Int))) <|
     one (addI .i64 i 1) fun x1401 =>
     chk (decide (Int.ofNat (List.length f_closed) = Int.ofNat (List.length f_closed)) && true && true) <|
     chk (decide (Int.ofNat (List.length l) + (↑(1 : Nat) : Int) = Int.ofNat (List.length (l ++ [x1399]))) && (decide (Int.ofNat (List.length swaps) = Int.ofNat (List.length swaps)) && true)) <|
     again (swaps) (l ++ [x1399]) (f_got_k) (f_got_v) (f_lost_k) (f_lost_v) (f_closed) (f_r) (f_any) (f_now) (f_first) (f_newest) (f_count) (f_event) (f_eventAt) (f_eventN) (f_bytes) (f_since) (x1401) (first) (n2))
    (chk (decide (Int.ofNat (List.length f_closed) = Int.ofNat (List.length f_closed)) && true && true) <|
     chk (decide (Int.ofNat (List.length l) = Int.ofNat (List.length l)) && (decide (Int.ofNat (List.length swaps) = Int.ofNat (List.length swaps)) && true)) <|
     kx 0 [.lb (swaps), .li (l), .li (f_got_k), .li (f_got_v), .li (f_lost_k), .lb (f_lost_v), .li (f_closed), .i (f_r), .b (f_any), .i (f_now), .i (f_first), .i (f_newest), .i (f_count), .b (f_event), .i (f_eventAt), .i (f_eventN), .i (f_bytes), .i (f_since), .i (n2)])
def FeedNone_8_L {α : Type} (kx : Nat → List Leaf → Option α) (kr : List Leaf → Option α) : Nat → List Bool → List Int → List Int → List Int → List Int → List Bool → List Int → Int → Bool → Int → Int → Int → Int → Bool → Int → Int → Int → Int → Int → Int → Int → Option α
  | 0, _, _, _, _, _, _, _, _, _, _, _, _, _, _, _, _, _, _, _, _, _ => none
  | n + 1, swaps, l, f_got_k, f_got_v, f_lost_k, f_lost_v, f_closed, f_r, f_any, f_now, f_first, f_newest, f_count, f_event, f_eventAt, f_eventN, f_bytes, f_since, i, first, n2 => FeedNone_8_B  kx kr (FeedNone_8_L kx kr n) swaps l f_got_k f_got_v f_lost_k f_lost_v f_closed f_r f_any f_now f_first f_newest f_count f_event f_eventAt f_eventN f_bytes f_since i first n2
def FeedNone_8_F (L8 : ({β : Type} → (Nat → List Leaf → Option β) → (List Leaf → Option β) → Nat → List Bool → List Int → List Int → List Int → List Int → List Bool → List Int → Int → Bool → Int → Int → Int → Int → Bool → Int → Int → Int → Int → Int → Int → Int → Option β)) {α : Type} (n : Nat) (ls : List Leaf) (kx : Nat → List Leaf → Option α) (kr : List Leaf → Option α) : Option α := un_lb ls fun swaps rr => un_li rr fun l rr => un_li rr fun f_got_k rr => un_li rr fun f_got_v rr => un_li rr fun f_lost_k rr => un_lb rr fun f_lost_v rr => un_li rr fun f_closed rr => un_i rr fun f_r rr => un_b rr fun f_any rr => un_i rr fun f_now rr => un_i rr fun f_first rr => un_i rr fun f_newest rr => un_i rr fun f_count rr => un_b rr fun f_event rr => un_i rr fun f_eventAt rr => un_i rr fun f_eventN rr => un_i rr fun f_bytes rr => un_i rr fun f_since rr => un_i rr fun i rr => un_i rr fun first rr => un_i rr fun n2 rr => un_nil rr (L8 kx kr n swaps l f_got_k f_got_v f_lost_k f_lost_v f_closed f_r f_any f_now f_first f_newest f_count f_event f_eventAt f_eventN f_bytes f_since i first n2)
def FeedNone_12_B  {α : Type} (kx : Nat → List Leaf → Option α) (kr : List Leaf → Option α) (again : List Bool → List Int → List Int → List Int → List Int → List Bool → List Int → Int → Bool → Int → Int → Int → Int → Bool → Int → Int → Int → Int → Int → Int → Option α) (swaps : List Bool) (l : List Int) (f_got_k : List Int) (f_got_v : List Int) (f_lost_k : List Int) (f_lost_v : List Bool) (f_closed : List Int) (f_r : Int) (f_any : Bool) (f_now : Int) (f_first : Int) (f_newest : Int) (f_count : Int) (f_event : Bool) (f_eventAt : Int) (f_eventN : Int) (f_bytes : Int) (f_since : Int) (i : Int) (n2 : Int) : Option α :=
  one (addI .i64 i 1) fun x1486 =>
  br (decide (x1486 < n2))
    (one (Int.ofNat (List.length swaps)) fun x1487 =>
     br (decide (i < x1487))
       (chk (decide ((0 : Int) ≤ i ∧ i < Int.ofNat (List.length swaps))) <|
        chk (decide ((0 : Int) ≤ i ∧ i < Int.ofNat (List.length swaps))) <|
        br (List.getD swaps (Int.toNat i) false)
          (one (addI .i64 i 1) fun x1488 =>
           one (addI .i64 i 1) fun x1489 =>
           chk (decide ((0 : Int) ≤ x1489 ∧ x1489 < Int.ofNat (List.length l))) <|
           chk (decide ((0 : Int) ≤ x1489 ∧ x1489 < Int.ofNat (List.length l))) <|
           chk (decide ((0 : Int) ≤ i ∧ i < Int.ofNat (List.length l))) <|
           chk (decide ((0 : Int) ≤ i ∧ i < Int.ofNat (List.length l))) <|
           chk (decide ((0 : Int) ≤ i ∧ i < Int.ofNat (List.length l))) <|
           chk (decide ((0 : Int) ≤ i ∧ i < Int.ofNat (List.length l))) <|
           chk (decide ((0 : Int) ≤ x1488 ∧ x1488 < Int.ofNat (List.length l))) <|
           chk (decide ((0 : Int) ≤ x1488 ∧ x1488 < Int.ofNat (List.length l))) <|
           one (addI .i64 i 2) fun x1490 =>
           chk (decide (Int.ofNat (List.length f_closed) = Int.ofNat (List.length f_closed)) && true && true) <|
           chk (decide (Int.ofNat (List.length l) = Int.ofNat (List.length (List.set (List.set l (Int.toNat i) (List.getD l (Int.toNat x1489) (0 : Int))) (Int.toNat x1488) (List.getD l (Int.toNat i) (0 : Int))))) && (decide (Int.ofNat (List.length swaps) = Int.ofNat (List.length swaps)) && true)) <|
           again (swaps) (List.set (List.set l (Int.toNat i) (List.getD l (Int.toNat x1489) 0)) (Int.toNat x1488) (List.getD l (Int.toNat i) 0)) (f_got_k) (f_got_v) (f_lost_k) (f_lost_v) (f_closed) (f_r) (f_any) (f_now) (f_first) (f_newest) (f_count) (f_event) (f_eventAt) (f_eventN) (f_bytes) (f_since) (x1490) (n2))
          (one (addI .i64 i 2) fun x1491 =>
           chk (decide (Int.ofNat (List.length f_closed) = Int.ofNat (List.length f_closed)) && true && true) <|
           chk (decide (Int.ofNat (List.length l) = Int.ofNat (List.length l)) && (decide (Int.ofNat (List.length swaps) = Int.ofNat (List.length swaps)) && true)) <|
           again (swaps) (l) (f_got_k) (f_got_v) (f_lost_k) (f_lost_v) (f_closed) (f_r) (f_any) (f_now) (f_first) (f_newest) (f_count) (f_event) (f_eventAt) (f_eventN) (f_bytes) (f_since) (x1491) (n2)))
       (chk (decide (Int.ofNat (List.length f_closed) = Int.ofNat (List.length f_closed)) && true && true) <|
        chk (decide (Int.ofNat (List.length l) = Int.ofNat (List.length l)) && true) <|
        kx 2 [.lb (swaps), .li (l), .li (f_got_k), .li (f_got_v), .li (f_lost_k), .lb (f_lost_v), .li (f_closed), .i (f_r), .b (f_any), .i (f_now), .i (f_first), .i (f_newest), .i (f_count), .b (f_event), .i (f_eventAt), .i (f_eventN), .i (f_bytes), .i (f_since), .i (n2)]))
    (chk (decide (Int.ofNat (List.length f_closed) = Int.ofNat (List.length f_closed)) && true && true) <|
     chk (decide (Int.ofNat (List.length l) = Int.ofNat (List.length l)) && true) <|
     kx 2 [.lb (swaps), .li (l), .li (f_got_k), .li (f_got_v), .li (f_lost_k), .lb (f_lost_v), .li (f_closed), .i (f_r), .b (f_any), .i (f_now), .i (f_first), .i (f_newest), .i (f_count), .b (f_event), .i (f_eventAt), .i (f_eventN), .i (f_bytes), .i (f_since), .i (n2)])
def FeedNone_12_L {α : Type} (kx : Nat → List Leaf → Option α) (kr : List Leaf → Option α) : Nat → List Bool → List Int → List Int → List Int → List Int → List Bool → List Int → Int → Bool → Int → Int → Int → Int → Bool → Int → Int → Int → Int → Int → Int → Option α
  | 0, _, _, _, _, _, _, _, _, _, _, _, _, _, _, _, _, _, _, _, _ => none
  | n + 1, swaps, l, f_got_k, f_got_v, f_lost_k, f_lost_v, f_closed, f_r, f_any, f_now, f_first, f_newest, f_count, f_event, f_eventAt, f_eventN, f_bytes, f_since, i, n2 => FeedNone_12_B  kx kr (FeedNone_12_L kx kr n) swaps l f_got_k f_got_v f_lost_k f_lost_v f_closed f_r f_any f_now f_first f_newest f_count f_event f_eventAt f_eventN f_bytes f_since i n2
def FeedNone_12_F (L12 : ({β : Type} → (Nat → List Leaf → Option β) → (List Leaf → Option β) → Nat → List Bool → List Int → List Int → List Int → List Int → List Bool → List Int → Int → Bool → Int → Int → Int → Int → Bool → Int → Int → Int → Int → Int → Int → Option β)) {α : Type} (n : Nat) (ls : List Leaf) (kx : Nat → List Leaf → Option α) (kr : List Leaf → Option α) : Option α := un_lb ls fun swaps rr => un_li rr fun l rr => un_li rr fun f_got_k rr => un_li rr fun f_got_v rr => un_li rr fun f_lost_k rr => un_lb rr fun f_lost_v rr => un_li rr fun f_closed rr => un_i rr fun f_r rr => un_b rr fun f_any rr => un_i rr fun f_now rr => un_i rr fun f_first rr => un_i rr fun f_newest rr => un_i rr fun f_count rr => un_b rr fun f_event rr => un_i rr fun f_eventAt rr => un_i rr fun f_eventN rr => un_i rr fun f_bytes rr => un_i rr fun f_since rr => un_i rr fun i rr => un_i rr fun n2 rr => un_nil rr (L12 kx kr n swaps l f_got_k f_got_v f_lost_k f_lost_v f_closed f_r f_any f_now f_first f_newest f_count f_event f_eventAt f_eventN f_bytes f_since i n2)
def FeedNone_17_B  {α : Type} (kx : Nat → List Leaf → Option α) (kr : List Leaf → Option α) (again : List Bool → List Int → List Int → List Int → List Int → List Bool → List Int → Int → Bool → Int → Int → Int → Int → Bool → Int → Int → Int → Int → Int → Int → Int → Option α) (swaps : List Bool) (l : List Int) (f_got_k : List Int) (f_got_v : List Int) (f_lost_k : List Int) (f_lost_v : List Bool) (f_closed : List Int) (f_r : Int) (f_any : Bool) (f_now : Int) (f_first : Int) (f_newest : Int) (f_count : Int) (f_event : Bool) (f_eventAt : Int) (f_eventN : Int) (f_bytes : Int) (f_since : Int) (t73 : Int) (n2 : Int) (t72 : Int) : Option α :=
  br (decide (t73 < t72))
    (one (mulI .i64 t73 10) fun x1685 =>
     chk (decide ((0 : Int) ≤ t73 ∧ t73 < Int.ofNat (List.length l))) <|
     chk (decide ((0 : Int) ≤ t73 ∧ t73 < Int.ofNat (List.length l))) <|
     chk (decide (Int.ofNat (List.length f_closed) = Int.ofNat (List.length f_closed)) && true && true) <|
     out (feed_Put f_got_k f_got_v f_lost_k f_lost_v f_closed f_r f_any f_now f_first f_newest f_count f_event f_eventAt f_eventN f_bytes f_since x1685 (List.getD l (Int.toNat t73) 0) 100) fun r1686 =>
     un_li r1686 fun x1687 r1688 =>
     un_li r1688 fun x1689 r1690 =>
     un_li r1690 fun x1691 r1692 =>
     un_lb r1692 fun x1693 r1694 =>
     un_li r1694 fun x1695 r1696 =>
     un_i r1696 fun x1697 r1698 =>
     un_b r1698 fun x1699 r1700 =>
     un_i r1700 fun x1701 r1702 =>
     un_i r1702 fun x1703 r1704 =>
     un_i r1704 fun x1705 r1706 =>
     un_i r1706 fun x1707 r1708 =>
     un_b r1708 fun x1709 r1710 =>
     un_i r1710 fun x1711 r1712 =>
     un_i r1712 fun x1713 r1714 =>
     un_i r1714 fun x1715 r1716 =>
     un_i r1716 fun x1717 r1718 =>
     un_b r1718 fun x1719 r1720 =>
     un_nil r1720 <|
     br (!x1719)
       (kr [.lb (swaps), .b (false)])
       (one (mulI .i64 t73 10) fun x1721 =>
        chk (decide ((0 : Int) ≤ t73 ∧ t73 < Int.ofNat (List.length l))) <|
        chk (decide ((0 : Int) ≤ t73 ∧ t73 < Int.ofNat (List.length l))) <|
        chk (decide (Int.ofNat (List.length x1695) = Int.ofNat (List.length x1695)) && true && true) <|
        out (feed_Put x1687 x1689 x1691 x1693 x1695 x1697 x1699 x1701 x1703 x1705 x1707 x1709 x1711 x1713 x1715 x1717 x1721 (List.getD l (Int.toNat t73) 0) 100) fun r1722 =>
        un_li r1722 fun x1723 r1724 =>
        un_li r1724 fun x1725 r1726 =>
        un_li r1726 fun x1727 r1728 =>
        un_lb r1728 fun x1729 r1730 =>
        un_li r1730 fun x1731 r1732 =>
        un_i r1732 fun x1733 r1734 =>
        un_b r1734 fun x1735 r1736 =>
        un_i r1736 fun x1737 r1738 =>
        un_i r1738 fun x1739 r1740 =>
        un_i r1740 fun x1741 r1742 =>
        un_i r1742 fun x1743 r1744 =>
        un_b r1744 fun x1745 r1746 =>
        un_i r1746 fun x1747 r1748 =>
        un_i r1748 fun x1749 r1750 =>
        un_i r1750 fun x1751 r1752 =>
        un_i r1752 fun x1753 r1754 =>
        un_b r1754 fun x1755 r1756 =>
        un_nil r1756 <|
        br (x1755)
          (kr [.lb (swaps), .b (false)])
          (one (addI .i64 t73 1) fun x1757 =>
           chk (decide (Int.ofNat (List.length x1731) = Int.ofNat (List.length x1731)) && true && true) <|
           chk (decide (Int.ofNat (List.length l) = Int.ofNat (List.length l)) && true) <|
           again (swaps) (l) (x1723) (x1725) (x1727) (x1729) (x1731) (x1733) (x1735) (x1737) (x1739) (x1741) (x1743) (x1745) (x1747) (x1749) (x1751) (x1753) (x1757) (n2) (t72))))
    (chk (decide (Int.ofNat (List.length f_closed) = Int.ofNat (List.length f_closed)) && true && true) <|
     kx 4 [.lb (swaps), .li (f_got_k), .li (f_got_v), .li (f_lost_k), .lb (f_lost_v), .li (f_closed), .i (f_r), .b (f_any), .i (f_now), .i (f_first), .i (f_newest), .i (f_count), .b (f_event), .i (f_eventAt), .i (f_eventN), .i (f_bytes), .i (f_since), .i (n2)])
def FeedNone_17_L {α : Type} (kx : Nat → List Leaf → Option α) (kr : List Leaf → Option α) : Nat → List Bool → List Int → List Int → List Int → List Int → List Bool → List Int → Int → Bool → Int → Int → Int → Int → Bool → Int → Int → Int → Int → Int → Int → Int → Option α
  | 0, _, _, _, _, _, _, _, _, _, _, _, _, _, _, _, _, _, _, _, _, _ => none
  | n + 1, swaps, l, f_got_k, f_got_v, f_lost_k, f_lost_v, f_closed, f_r, f_any, f_now, f_first, f_newest, f_count, f_event, f_eventAt, f_eventN, f_bytes, f_since, t73, n2, t72 => FeedNone_17_B  kx kr (FeedNone_17_L kx kr n) swaps l f_got_k f_got_v f_lost_k f_lost_v f_closed f_r f_any f_now f_first f_newest f_count f_event f_eventAt f_eventN f_bytes f_since t73 n2 t72
def FeedNone_17_F (L17 : ({β : Type} → (Nat → List Leaf → Option β) → (List Leaf → Option β) → Nat → List Bool → List Int → List Int → List Int → List Int → List Bool → List Int → Int → Bool → Int → Int → Int → Int → Bool → Int → Int → Int → Int → Int → Int → Int → Option β)) {α : Type} (n : Nat) (ls : List Leaf) (kx : Nat → List Leaf → Option α) (kr : List Leaf → Option α) : Option α := un_lb ls fun swaps rr => un_li rr fun l rr => un_li rr fun f_got_k rr => un_li rr fun f_got_v rr => un_li rr fun f_lost_k rr => un_lb rr fun f_lost_v rr => un_li rr fun f_closed rr => un_i rr fun f_r rr => un_b rr fun f_any rr => un_i rr fun f_now rr => un_i rr fun f_first rr => un_i rr fun f_newest rr => un_i rr fun f_count rr => un_b rr fun f_event rr => un_i rr fun f_eventAt rr => un_i rr fun f_eventN rr => un_i rr fun f_bytes rr => un_i rr fun f_since rr => un_i rr fun t73 rr => un_i rr fun n2 rr => un_i rr fun t72 rr => un_nil rr (L17 kx kr n swaps l f_got_k f_got_v f_lost_k f_lost_v f_closed f_r f_any f_now f_first f_newest f_count f_event f_eventAt f_eventN f_bytes f_since t73 n2 t72)
def FeedNone_d (L8 : ({β : Type} → (Nat → List Leaf → Option β) → (List Leaf → Option β) → Nat → List Bool → List Int → List Int → List Int → List Int → List Bool → List Int → Int → Bool → Int → Int → Int → Int → Bool → Int → Int → Int → Int → Int → Int → Int → Option β)) (L12 : ({β : Type} → (Nat → List Leaf → Option β) → (List Leaf → Option β) → Nat → List Bool → List Int → List Int → List Int → List Int → List Bool → List Int → Int → Bool → Int → Int → Int → Int → Bool → Int → Int → Int → Int → Int → Int → Option β)) (L17 : ({β : Type} → (Nat → List Leaf → Option β) → (List Leaf → Option β) → Nat → List Bool → List Int → List Int → List Int → List Int → List Bool → List Int → Int → Bool → Int → Int → Int → Int → Bool → Int → Int → Int → Int → Int → Int → Int → Option β)) (swaps : List Bool) (first : Int) (n2 : Int) : Option (List Leaf) :=
  one (remI .i64 n2 60) fun x1758 =>
  one (addI .i64 x1758 60) fun x1759 =>
  one (remI .i64 x1759 60) fun x1760 =>
  one (addI .i64 1 x1760) fun x1761 =>
  out (feed_New 1000) fun r1762 =>
  un_li r1762 fun x1763 r1764 =>
  un_li r1764 fun x1765 r1766 =>
  un_li r1766 fun x1767 r1768 =>
  un_lb r1768 fun x1769 r1770 =>
  un_li r1770 fun x1771 r1772 =>
  un_i r1772 fun x1773 r1774 =>
  un_b r1774 fun x1775 r1776 =>
  un_i r1776 fun x1777 r1778 =>
  un_i r1778 fun x1779 r1780 =>
  un_i r1780 fun x1781 r1782 =>
  un_i r1782 fun x1783 r1784 =>
  un_b r1784 fun x1785 r1786 =>
  un_i r1786 fun x1787 r1788 =>
  un_i r1788 fun x1789 r1790 =>
  un_i r1790 fun x1791 r1792 =>
  un_i r1792 fun x1793 r1794 =>
  un_nil r1794 <|
  chk (decide (Int.ofNat (List.length x1771) = Int.ofNat (List.length x1771)) && true && true) <|
  chk (decide ((0 : Int) = Int.ofNat (0 : Nat)) && (decide (Int.ofNat (List.length swaps) = Int.ofNat (List.length swaps)) && true)) <|
  L8
    (fun i1795 r1796 =>
     br (Nat.beq 0 i1795)
       (un_lb r1796 fun x1797 r1798 =>
        un_li r1798 fun x1799 r1800 =>
        un_li r1800 fun x1801 r1802 =>
        un_li r1802 fun x1803 r1804 =>
        un_li r1804 fun x1805 r1806 =>
        un_lb r1806 fun x1807 r1808 =>
        un_li r1808 fun x1809 r1810 =>
        un_i r1810 fun x1811 r1812 =>
        un_b r1812 fun x1813 r1814 =>
        un_i r1814 fun x1815 r1816 =>
        un_i r1816 fun x1817 r1818 =>
        un_i r1818 fun x1819 r1820 =>
        un_i r1820 fun x1821 r1822 =>
        un_b r1822 fun x1823 r1824 =>
        un_i r1824 fun x1825 r1826 =>
        un_i r1826 fun x1827 r1828 =>
        un_i r1828 fun x1829 r1830 =>
        un_i r1830 fun x1831 r1832 =>
        un_i r1832 fun x1833 r1834 =>
        un_nil r1834 <|
        chk (decide (Int.ofNat (List.length x1809) = Int.ofNat (List.length x1809)) && true && true) <|
        chk (decide (Int.ofNat (List.length x1799) = Int.ofNat (List.length x1799)) && (decide (Int.ofNat (List.length x1797) = Int.ofNat (List.length x1797)) && true)) <|
        L12
          (fun i1835 r1836 =>
           br (Nat.beq 2 i1835)
             (un_lb r1836 fun x1837 r1838 =>
              un_li r1838 fun x1839 r1840 =>
              un_li r1840 fun x1841 r1842 =>
              un_li r1842 fun x1843 r1844 =>
              un_li r1844 fun x1845 r1846 =>
              un_lb r1846 fun x1847 r1848 =>
              un_li r1848 fun x1849 r1850 =>
              un_i r1850 fun x1851 r1852 =>
              un_b r1852 fun x1853 r1854 =>
              un_i r1854 fun x1855 r1856 =>
              un_i r1856 fun x1857 r1858 =>
              un_i r1858 fun x1859 r1860 =>
              un_i r1860 fun x1861 r1862 =>
              un_b r1862 fun x1863 r1864 =>
              un_i r1864 fun x1865 r1866 =>
              un_i r1866 fun x1867 r1868 =>
              un_i r1868 fun x1869 r1870 =>
              un_i r1870 fun x1871 r1872 =>
              un_i r1872 fun x1873 r1874 =>
              un_nil r1874 <|
              one (Int.ofNat (List.length x1839)) fun x1875 =>
              chk (decide (Int.ofNat (List.length x1849) = Int.ofNat (List.length x1849)) && true && true) <|
              chk (decide (Int.ofNat (List.length x1839) = Int.ofNat (List.length x1839)) && true) <|
              L17
                (fun i1876 r1877 =>
                 br (Nat.beq 4 i1876)
                   (un_lb r1877 fun x1878 r1879 =>
                    un_li r1879 fun x1880 r1881 =>
                    un_li r1881 fun x1882 r1883 =>
                    un_li r1883 fun x1884 r1885 =>
                    un_lb r1885 fun x1886 r1887 =>
                    un_li r1887 fun x1888 r1889 =>
                    un_i r1889 fun x1890 r1891 =>
                    un_b r1891 fun x1892 r1893 =>
                    un_i r1893 fun x1894 r1895 =>
                    un_i r1895 fun x1896 r1897 =>
                    un_i r1897 fun x1898 r1899 =>
                    un_i r1899 fun x1900 r1901 =>
                    un_b r1901 fun x1902 r1903 =>
                    un_i r1903 fun x1904 r1905 =>
                    un_i r1905 fun x1906 r1907 =>
                    un_i r1907 fun x1908 r1909 =>
                    un_i r1909 fun x1910 r1911 =>
                    un_i r1911 fun x1912 r1913 =>
                    un_nil r1913 <|
                    br (!x1902)
                      (one (minI 1000000 4611686018427387904) fun x1914 =>
                       one (maxI x1894 x1914) fun x1915 =>
                       br (x1892)
                         (one (mulI .u64 64 x1908) fun x1916 =>
                          one (subI .i64 x1915 x1910) fun x1917 =>
                          one (maxI x1917 1) fun x1918 =>
                          one (wrapI .u64 x1918) fun x1919 =>
                          out (fix_MulDiv x1916 1000000 x1919) fun r1920 =>
                          un_i r1920 fun x1921 r1922 =>
                          un_nil r1922 <|
                          br (!x1902)
                            (one (minI 0 8) fun x1923 =>
                             chk (condSl 0 Option.none (Option.some x1923)) <|
                             out (ival_Weight 0) fun r1924 =>
                             un_i r1924 fun x1925 r1926 =>
                             un_nil r1926 <|
                             out (fix_Mul 0 x1925) fun r1927 =>
                             un_i r1927 fun x1928 r1929 =>
                             un_nil r1929 <|
                             one (maxI x1928 0) fun x1930 =>
                             one (minI 1000000 4611686018427387904) fun x1931 =>
                             one (maxI x1915 x1931) fun x1932 =>
                             br (x1892)
                               (one (mulI .u64 64 0) fun x1933 =>
                                one (subI .i64 x1932 x1915) fun x1934 =>
                                one (maxI x1934 1) fun x1935 =>
                                one (wrapI .u64 x1935) fun x1936 =>
                                out (fix_MulDiv x1933 1000000 x1936) fun r1937 =>
                                un_i r1937 fun x1938 r1939 =>
                                un_nil r1939 <|
                                br (!x1902)
                                  (one (minI 0 8) fun x1940 =>
                                   chk (condSl 0 Option.none (Option.some x1940)) <|
                                   out (ival_Weight 0) fun r1941 =>
                                   un_i r1941 fun x1942 r1943 =>
                                   un_nil r1943 <|
                                   out (fix_Mul 0 x1942) fun r1944 =>
                                   un_i r1944 fun x1945 r1946 =>
                                   un_nil r1946 <|
                                   one (maxI x1945 0) fun x1947 =>
                                   chk (decide (Int.ofNat (List.length x1888) = Int.ofNat (List.length x1888)) && true && true) <|
                                   out (feed_Lost x1880 x1882 x1884 x1886 x1888 x1890 x1892 x1932 x1896 x1898 x1900 x1902 x1904 x1906 0 x1932) fun r1948 =>
                                   un_i r1948 fun x1949 r1950 =>
                                   un_nil r1950 <|
                                   br (x1949 == 0)
                                     (one (mulI .i64 6400 x1912) fun x1951 =>
                                      one (wrapI .u64 x1951) fun x1952 =>
                                      br (x1921 == x1952)
                                        (some [.b (x1938 == 0)])
                                        (some [.b (false)]))
                                     (some [.b (false)]))
                                  (out (seq_Diff x1898 x1906) fun r1953 =>
                                   un_i r1953 fun x1954 r1955 =>
                                   un_nil r1955 <|
                                   one (maxI x1954 0) fun x1956 =>
                                   one (wrapI .u64 x1956) fun x1957 =>
                                   chk (decide (Int.ofNat (List.length x1888) = Int.ofNat (List.length x1888)) && decide (Int.ofNat (List.length x1888) * (↑(nat_lit 8) : Int) ≤ (140737488355328 : Int) ∧ Int.ofNat (List.length x1888) ≤ (4611686018427387904 : Int))) <|
                                   chk (decide (Int.ofNat (List.length x1888) = Int.ofNat (List.length x1888)) && decide (Int.ofNat (List.length x1888) * (↑(nat_lit 8) : Int) ≤ (140737488355328 : Int) ∧ Int.ofNat (List.length x1888) ≤ (4611686018427387904 : Int))) <|
                                   chk (decide (Int.ofNat (List.length x1888) = Int.ofNat (List.length x1888)) && true) <|
                                   out (ival_Rate x1888 x1957) fun r1958 =>
                                   un_i r1958 fun x1959 r1960 =>
                                   un_nil r1960 <|
                                   chk (decide (Int.ofNat (List.length x1888) = Int.ofNat (List.length x1888)) && true && true) <|
                                   out (feed_Lost x1880 x1882 x1884 x1886 x1888 x1890 x1892 x1932 x1896 x1898 x1900 x1902 x1904 x1906 0 x1932) fun r1961 =>
                                   un_i r1961 fun x1962 r1963 =>
                                   un_nil r1963 <|
                                   br (x1962 == 0)
                                     (one (mulI .i64 6400 x1912) fun x1964 =>
                                      one (wrapI .u64 x1964) fun x1965 =>
                                      br (x1921 == x1965)
                                        (some [.b (x1938 == 0)])
                                        (some [.b (false)]))
                                     (some [.b (false)])))
                               (br (!x1902)
                                  (one (minI 0 8) fun x1966 =>
                                   chk (condSl 0 Option.none (Option.some x1966)) <|
                                   out (ival_Weight 0) fun r1967 =>
                                   un_i r1967 fun x1968 r1969 =>
                                   un_nil r1969 <|
                                   out (fix_Mul 0 x1968) fun r1970 =>
                                   un_i r1970 fun x1971 r1972 =>
                                   un_nil r1972 <|
                                   one (maxI x1971 0) fun x1973 =>
                                   chk (decide (Int.ofNat (List.length x1888) = Int.ofNat (List.length x1888)) && true && true) <|
                                   out (feed_Lost x1880 x1882 x1884 x1886 x1888 x1890 x1892 x1932 x1896 x1898 x1900 x1902 x1904 x1906 0 x1915) fun r1974 =>
                                   un_i r1974 fun x1975 r1976 =>
                                   un_nil r1976 <|
                                   br (x1975 == 0)
                                     (one (mulI .i64 6400 x1912) fun x1977 =>
                                      one (wrapI .u64 x1977) fun x1978 =>
                                      br (x1921 == x1978)
                                        (some [.b (0 == 0)])
                                        (some [.b (false)]))
                                     (some [.b (false)]))
                                  (out (seq_Diff x1898 x1906) fun r1979 =>
                                   un_i r1979 fun x1980 r1981 =>
                                   un_nil r1981 <|
                                   one (maxI x1980 0) fun x1982 =>
                                   one (wrapI .u64 x1982) fun x1983 =>
                                   chk (decide (Int.ofNat (List.length x1888) = Int.ofNat (List.length x1888)) && decide (Int.ofNat (List.length x1888) * (↑(nat_lit 8) : Int) ≤ (140737488355328 : Int) ∧ Int.ofNat (List.length x1888) ≤ (4611686018427387904 : Int))) <|
                                   chk (decide (Int.ofNat (List.length x1888) = Int.ofNat (List.length x1888)) && decide (Int.ofNat (List.length x1888) * (↑(nat_lit 8) : Int) ≤ (140737488355328 : Int) ∧ Int.ofNat (List.length x1888) ≤ (4611686018427387904 : Int))) <|
                                   chk (decide (Int.ofNat (List.length x1888) = Int.ofNat (List.length x1888)) && true) <|
                                   out (ival_Rate x1888 x1983) fun r1984 =>
                                   un_i r1984 fun x1985 r1986 =>
                                   un_nil r1986 <|
                                   chk (decide (Int.ofNat (List.length x1888) = Int.ofNat (List.length x1888)) && true && true) <|
                                   out (feed_Lost x1880 x1882 x1884 x1886 x1888 x1890 x1892 x1932 x1896 x1898 x1900 x1902 x1904 x1906 0 x1915) fun r1987 =>
                                   un_i r1987 fun x1988 r1989 =>
                                   un_nil r1989 <|
                                   br (x1988 == 0)
                                     (one (mulI .i64 6400 x1912) fun x1990 =>
                                      one (wrapI .u64 x1990) fun x1991 =>
                                      br (x1921 == x1991)
                                        (some [.b (0 == 0)])
                                        (some [.b (false)]))
                                     (some [.b (false)]))))
                            (out (seq_Diff x1898 x1906) fun r1992 =>
                             un_i r1992 fun x1993 r1994 =>
                             un_nil r1994 <|
                             one (maxI x1993 0) fun x1995 =>
                             one (wrapI .u64 x1995) fun x1996 =>
                             chk (decide (Int.ofNat (List.length x1888) = Int.ofNat (List.length x1888)) && decide (Int.ofNat (List.length x1888) * (↑(nat_lit 8) : Int) ≤ (140737488355328 : Int) ∧ Int.ofNat (List.length x1888) ≤ (4611686018427387904 : Int))) <|
                             chk (decide (Int.ofNat (List.length x1888) = Int.ofNat (List.length x1888)) && decide (Int.ofNat (List.length x1888) * (↑(nat_lit 8) : Int) ≤ (140737488355328 : Int) ∧ Int.ofNat (List.length x1888) ≤ (4611686018427387904 : Int))) <|
                             chk (decide (Int.ofNat (List.length x1888) = Int.ofNat (List.length x1888)) && true) <|
                             out (ival_Rate x1888 x1996) fun r1997 =>
                             un_i r1997 fun x1998 r1999 =>
                             un_nil r1999 <|
                             one (minI 1000000 4611686018427387904) fun x2000 =>
                             one (maxI x1915 x2000) fun x2001 =>
                             br (x1892)
                               (one (mulI .u64 64 0) fun x2002 =>
                                one (subI .i64 x2001 x1915) fun x2003 =>
                                one (maxI x2003 1) fun x2004 =>
                                one (wrapI .u64 x2004) fun x2005 =>
                                out (fix_MulDiv x2002 1000000 x2005) fun r2006 =>
                                un_i r2006 fun x2007 r2008 =>
                                un_nil r2008 <|
                                br (!x1902)
                                  (one (minI 0 8) fun x2009 =>
                                   chk (condSl 0 Option.none (Option.some x2009)) <|
                                   out (ival_Weight 0) fun r2010 =>
                                   un_i r2010 fun x2011 r2012 =>
                                   un_nil r2012 <|
                                   out (fix_Mul 0 x2011) fun r2013 =>
                                   un_i r2013 fun x2014 r2015 =>
                                   un_nil r2015 <|
                                   one (maxI x2014 0) fun x2016 =>
                                   chk (decide (Int.ofNat (List.length x1888) = Int.ofNat (List.length x1888)) && true && true) <|
                                   out (feed_Lost x1880 x1882 x1884 x1886 x1888 x1890 x1892 x2001 x1896 x1898 x1900 x1902 x1904 x1906 0 x2001) fun r2017 =>
                                   un_i r2017 fun x2018 r2019 =>
                                   un_nil r2019 <|
                                   br (x2018 == 0)
                                     (br (x1998 == 0)
                                        (one (mulI .i64 6400 x1912) fun x2020 =>
                                         one (wrapI .u64 x2020) fun x2021 =>
                                         br (x1921 == x2021)
                                           (some [.b (x2007 == 0)])
                                           (some [.b (false)]))
                                        (some [.b (false)]))
                                     (some [.b (false)]))
                                  (out (seq_Diff x1898 x1906) fun r2022 =>
                                   un_i r2022 fun x2023 r2024 =>
                                   un_nil r2024 <|
                                   one (maxI x2023 0) fun x2025 =>
                                   one (wrapI .u64 x2025) fun x2026 =>
                                   chk (decide (Int.ofNat (List.length x1888) = Int.ofNat (List.length x1888)) && decide (Int.ofNat (List.length x1888) * (↑(nat_lit 8) : Int) ≤ (140737488355328 : Int) ∧ Int.ofNat (List.length x1888) ≤ (4611686018427387904 : Int))) <|
                                   chk (decide (Int.ofNat (List.length x1888) = Int.ofNat (List.length x1888)) && decide (Int.ofNat (List.length x1888) * (↑(nat_lit 8) : Int) ≤ (140737488355328 : Int) ∧ Int.ofNat (List.length x1888) ≤ (4611686018427387904 : Int))) <|
                                   chk (decide (Int.ofNat (List.length x1888) = Int.ofNat (List.length x1888)) && true) <|
                                   out (ival_Rate x1888 x2026) fun r2027 =>
                                   un_i r2027 fun x2028 r2029 =>
                                   un_nil r2029 <|
                                   chk (decide (Int.ofNat (List.length x1888) = Int.ofNat (List.length x1888)) && true && true) <|
                                   out (feed_Lost x1880 x1882 x1884 x1886 x1888 x1890 x1892 x2001 x1896 x1898 x1900 x1902 x1904 x1906 0 x2001) fun r2030 =>
                                   un_i r2030 fun x2031 r2032 =>
                                   un_nil r2032 <|
                                   br (x2031 == 0)
                                     (br (x1998 == 0)
                                        (one (mulI .i64 6400 x1912) fun x2033 =>
                                         one (wrapI .u64 x2033) fun x2034 =>
                                         br (x1921 == x2034)
                                           (some [.b (x2007 == 0)])
                                           (some [.b (false)]))
                                        (some [.b (false)]))
                                     (some [.b (false)])))
                               (br (!x1902)
                                  (one (minI 0 8) fun x2035 =>
                                   chk (condSl 0 Option.none (Option.some x2035)) <|
                                   out (ival_Weight 0) fun r2036 =>
                                   un_i r2036 fun x2037 r2038 =>
                                   un_nil r2038 <|
                                   out (fix_Mul 0 x2037) fun r2039 =>
                                   un_i r2039 fun x2040 r2041 =>
                                   un_nil r2041 <|
                                   one (maxI x2040 0) fun x2042 =>
                                   chk (decide (Int.ofNat (List.length x1888) = Int.ofNat (List.length x1888)) && true && true) <|
                                   out (feed_Lost x1880 x1882 x1884 x1886 x1888 x1890 x1892 x2001 x1896 x1898 x1900 x1902 x1904 x1906 0 x1915) fun r2043 =>
                                   un_i r2043 fun x2044 r2045 =>
                                   un_nil r2045 <|
                                   br (x2044 == 0)
                                     (br (x1998 == 0)
                                        (one (mulI .i64 6400 x1912) fun x2046 =>
                                         one (wrapI .u64 x2046) fun x2047 =>
                                         br (x1921 == x2047)
                                           (some [.b (0 == 0)])
                                           (some [.b (false)]))
                                        (some [.b (false)]))
                                     (some [.b (false)]))
                                  (out (seq_Diff x1898 x1906) fun r2048 =>
                                   un_i r2048 fun x2049 r2050 =>
                                   un_nil r2050 <|
                                   one (maxI x2049 0) fun x2051 =>
                                   one (wrapI .u64 x2051) fun x2052 =>
                                   chk (decide (Int.ofNat (List.length x1888) = Int.ofNat (List.length x1888)) && decide (Int.ofNat (List.length x1888) * (↑(nat_lit 8) : Int) ≤ (140737488355328 : Int) ∧ Int.ofNat (List.length x1888) ≤ (4611686018427387904 : Int))) <|
                                   chk (decide (Int.ofNat (List.length x1888) = Int.ofNat (List.length x1888)) && decide (Int.ofNat (List.length x1888) * (↑(nat_lit 8) : Int) ≤ (140737488355328 : Int) ∧ Int.ofNat (List.length x1888) ≤ (4611686018427387904 : Int))) <|
                                   chk (decide (Int.ofNat (List.length x1888) = Int.ofNat (List.length x1888)) && true) <|
                                   out (ival_Rate x1888 x2052) fun r2053 =>
                                   un_i r2053 fun x2054 r2055 =>
                                   un_nil r2055 <|
                                   chk (decide (Int.ofNat (List.length x1888) = Int.ofNat (List.length x1888)) && true && true) <|
                                   out (feed_Lost x1880 x1882 x1884 x1886 x1888 x1890 x1892 x2001 x1896 x1898 x1900 x1902 x1904 x1906 0 x1915) fun r2056 =>
                                   un_i r2056 fun x2057 r2058 =>
                                   un_nil r2058 <|
                                   br (x2057 == 0)
                                     (br (x1998 == 0)
                                        (one (mulI .i64 6400 x1912) fun x2059 =>
                                         one (wrapI .u64 x2059) fun x2060 =>
                                         br (x1921 == x2060)
                                           (some [.b (0 == 0)])
                                           (some [.b (false)]))
                                        (some [.b (false)]))
                                     (some [.b (false)])))))
                         (br (!x1902)
                            (one (minI 0 8) fun x2061 =>
                             chk (condSl 0 Option.none (Option.some x2061)) <|
                             out (ival_Weight 0) fun r2062 =>
                             un_i r2062 fun x2063 r2064 =>
                             un_nil r2064 <|
                             out (fix_Mul 0 x2063) fun r2065 =>
                             un_i r2065 fun x2066 r2067 =>
                             un_nil r2067 <|
                             one (maxI x2066 0) fun x2068 =>
                             one (minI 1000000 4611686018427387904) fun x2069 =>
                             one (maxI x1915 x2069) fun x2070 =>
                             br (x1892)
                               (one (mulI .u64 64 x1908) fun x2071 =>
                                one (subI .i64 x2070 x1910) fun x2072 =>
                                one (maxI x2072 1) fun x2073 =>
                                one (wrapI .u64 x2073) fun x2074 =>
                                out (fix_MulDiv x2071 1000000 x2074) fun r2075 =>
                                un_i r2075 fun x2076 r2077 =>
                                un_nil r2077 <|
                                br (!x1902)
                                  (one (minI 0 8) fun x2078 =>
                                   chk (condSl 0 Option.none (Option.some x2078)) <|
                                   out (ival_Weight 0) fun r2079 =>
                                   un_i r2079 fun x2080 r2081 =>
                                   un_nil r2081 <|
                                   out (fix_Mul 0 x2080) fun r2082 =>
                                   un_i r2082 fun x2083 r2084 =>
                                   un_nil r2084 <|
                                   one (maxI x2083 0) fun x2085 =>
                                   chk (decide (Int.ofNat (List.length x1888) = Int.ofNat (List.length x1888)) && true && true) <|
                                   out (feed_Lost x1880 x1882 x1884 x1886 x1888 x1890 x1892 x2070 x1896 x1898 x1900 x1902 x1904 x1906 0 x2070) fun r2086 =>
                                   un_i r2086 fun x2087 r2088 =>
                                   un_nil r2088 <|
                                   br (x2087 == 0)
                                     (one (mulI .i64 6400 x1912) fun x2089 =>
                                      one (wrapI .u64 x2089) fun x2090 =>
                                      br (0 == x2090)
                                        (some [.b (x2076 == 0)])
                                        (some [.b (false)]))
                                     (some [.b (false)]))
                                  (out (seq_Diff x1898 x1906) fun r2091 =>
                                   un_i r2091 fun x2092 r2093 =>
                                   un_nil r2093 <|
                                   one (maxI x2092 0) fun x2094 =>
                                   one (wrapI .u64 x2094) fun x2095 =>
                                   chk (decide (Int.ofNat (List.length x1888) = Int.ofNat (List.length x1888)) && decide (Int.ofNat (List.length x1888) * (↑(nat_lit 8) : Int) ≤ (140737488355328 : Int) ∧ Int.ofNat (List.length x1888) ≤ (4611686018427387904 : Int))) <|
                                   chk (decide (Int.ofNat (List.length x1888) = Int.ofNat (List.length x1888)) && decide (Int.ofNat (List.length x1888) * (↑(nat_lit 8) : Int) ≤ (140737488355328 : Int) ∧ Int.ofNat (List.length x1888) ≤ (4611686018427387904 : Int))) <|
                                   chk (decide (Int.ofNat (List.length x1888) = Int.ofNat (List.length x1888)) && true) <|
                                   out (ival_Rate x1888 x2095) fun r2096 =>
                                   un_i r2096 fun x2097 r2098 =>
                                   un_nil r2098 <|
                                   chk (decide (Int.ofNat (List.length x1888) = Int.ofNat (List.length x1888)) && true && true) <|
                                   out (feed_Lost x1880 x1882 x1884 x1886 x1888 x1890 x1892 x2070 x1896 x1898 x1900 x1902 x1904 x1906 0 x2070) fun r2099 =>
                                   un_i r2099 fun x2100 r2101 =>
                                   un_nil r2101 <|
                                   br (x2100 == 0)
                                     (one (mulI .i64 6400 x1912) fun x2102 =>
                                      one (wrapI .u64 x2102) fun x2103 =>
                                      br (0 == x2103)
                                        (some [.b (x2076 == 0)])
                                        (some [.b (false)]))
                                     (some [.b (false)])))
                               (br (!x1902)
                                  (one (minI 0 8) fun x2104 =>
                                   chk (condSl 0 Option.none (Option.some x2104)) <|
                                   out (ival_Weight 0) fun r2105 =>
                                   un_i r2105 fun x2106 r2107 =>
                                   un_nil r2107 <|
                                   out (fix_Mul 0 x2106) fun r2108 =>
                                   un_i r2108 fun x2109 r2110 =>
                                   un_nil r2110 <|
                                   one (maxI x2109 0) fun x2111 =>
                                   chk (decide (Int.ofNat (List.length x1888) = Int.ofNat (List.length x1888)) && true && true) <|
                                   out (feed_Lost x1880 x1882 x1884 x1886 x1888 x1890 x1892 x2070 x1896 x1898 x1900 x1902 x1904 x1906 x1908 x1910) fun r2112 =>
                                   un_i r2112 fun x2113 r2114 =>
                                   un_nil r2114 <|
                                   br (x2113 == 0)
                                     (one (mulI .i64 6400 x1912) fun x2115 =>
                                      one (wrapI .u64 x2115) fun x2116 =>
                                      br (0 == x2116)
                                        (some [.b (0 == 0)])
                                        (some [.b (false)]))
                                     (some [.b (false)]))
                                  (out (seq_Diff x1898 x1906) fun r2117 =>
                                   un_i r2117 fun x2118 r2119 =>
                                   un_nil r2119 <|
                                   one (maxI x2118 0) fun x2120 =>
                                   one (wrapI .u64 x2120) fun x2121 =>
                                   chk (decide (Int.ofNat (List.length x1888) = Int.ofNat (List.length x1888)) && decide (Int.ofNat (List.length x1888) * (↑(nat_lit 8) : Int) ≤ (140737488355328 : Int) ∧ Int.ofNat (List.length x1888) ≤ (4611686018427387904 : Int))) <|
                                   chk (decide (Int.ofNat (List.length x1888) = Int.ofNat (List.length x1888)) && decide (Int.ofNat (List.length x1888) * (↑(nat_lit 8) : Int) ≤ (140737488355328 : Int) ∧ Int.ofNat (List.length x1888) ≤ (4611686018427387904 : Int))) <|
                                   chk (decide (Int.ofNat (List.length x1888) = Int.ofNat (List.length x1888)) && true) <|
                                   out (ival_Rate x1888 x2121) fun r2122 =>
                                   un_i r2122 fun x2123 r2124 =>
                                   un_nil r2124 <|
                                   chk (decide (Int.ofNat (List.length x1888) = Int.ofNat (List.length x1888)) && true && true) <|
                                   out (feed_Lost x1880 x1882 x1884 x1886 x1888 x1890 x1892 x2070 x1896 x1898 x1900 x1902 x1904 x1906 x1908 x1910) fun r2125 =>
                                   un_i r2125 fun x2126 r2127 =>
                                   un_nil r2127 <|
                                   br (x2126 == 0)
                                     (one (mulI .i64 6400 x1912) fun x2128 =>
                                      one (wrapI .u64 x2128) fun x2129 =>
                                      br (0 == x2129)
                                        (some [.b (0 == 0)])
                                        (some [.b (false)]))
                                     (some [.b (false)]))))
                            (out (seq_Diff x1898 x1906) fun r2130 =>
                             un_i r2130 fun x2131 r2132 =>
                             un_nil r2132 <|
                             one (maxI x2131 0) fun x2133 =>
                             one (wrapI .u64 x2133) fun x2134 =>
                             chk (decide (Int.ofNat (List.length x1888) = Int.ofNat (List.length x1888)) && decide (Int.ofNat (List.length x1888) * (↑(nat_lit 8) : Int) ≤ (140737488355328 : Int) ∧ Int.ofNat (List.length x1888) ≤ (4611686018427387904 : Int))) <|
                             chk (decide (Int.ofNat (List.length x1888) = Int.ofNat (List.length x1888)) && decide (Int.ofNat (List.length x1888) * (↑(nat_lit 8) : Int) ≤ (140737488355328 : Int) ∧ Int.ofNat (List.length x1888) ≤ (4611686018427387904 : Int))) <|
                             chk (decide (Int.ofNat (List.length x1888) = Int.ofNat (List.length x1888)) && true) <|
                             out (ival_Rate x1888 x2134) fun r2135 =>
                             un_i r2135 fun x2136 r2137 =>
                             un_nil r2137 <|
                             one (minI 1000000 4611686018427387904) fun x2138 =>
                             one (maxI x1915 x2138) fun x2139 =>
                             br (x1892)
                               (one (mulI .u64 64 x1908) fun x2140 =>
                                one (subI .i64 x2139 x1910) fun x2141 =>
                                one (maxI x2141 1) fun x2142 =>
                                one (wrapI .u64 x2142) fun x2143 =>
                                out (fix_MulDiv x2140 1000000 x2143) fun r2144 =>
                                un_i r2144 fun x2145 r2146 =>
                                un_nil r2146 <|
                                br (!x1902)
                                  (one (minI 0 8) fun x2147 =>
                                   chk (condSl 0 Option.none (Option.some x2147)) <|
                                   out (ival_Weight 0) fun r2148 =>
                                   un_i r2148 fun x2149 r2150 =>
                                   un_nil r2150 <|
                                   out (fix_Mul 0 x2149) fun r2151 =>
                                   un_i r2151 fun x2152 r2153 =>
                                   un_nil r2153 <|
                                   one (maxI x2152 0) fun x2154 =>
                                   chk (decide (Int.ofNat (List.length x1888) = Int.ofNat (List.length x1888)) && true && true) <|
                                   out (feed_Lost x1880 x1882 x1884 x1886 x1888 x1890 x1892 x2139 x1896 x1898 x1900 x1902 x1904 x1906 0 x2139) fun r2155 =>
                                   un_i r2155 fun x2156 r2157 =>
                                   un_nil r2157 <|
                                   br (x2156 == 0)
                                     (br (x2136 == 0)
                                        (one (mulI .i64 6400 x1912) fun x2158 =>
                                         one (wrapI .u64 x2158) fun x2159 =>
                                         br (0 == x2159)
                                           (some [.b (x2145 == 0)])
                                           (some [.b (false)]))
                                        (some [.b (false)]))
                                     (some [.b (false)]))
                                  (out (seq_Diff x1898 x1906) fun r2160 =>
                                   un_i r2160 fun x2161 r2162 =>
                                   un_nil r2162 <|
                                   one (maxI x2161 0) fun x2163 =>
                                   one (wrapI .u64 x2163) fun x2164 =>
                                   chk (decide (Int.ofNat (List.length x1888) = Int.ofNat (List.length x1888)) && decide (Int.ofNat (List.length x1888) * (↑(nat_lit 8) : Int) ≤ (140737488355328 : Int) ∧ Int.ofNat (List.length x1888) ≤ (4611686018427387904 : Int))) <|
                                   chk (decide (Int.ofNat (List.length x1888) = Int.ofNat (List.length x1888)) && decide (Int.ofNat (List.length x1888) * (↑(nat_lit 8) : Int) ≤ (140737488355328 : Int) ∧ Int.ofNat (List.length x1888) ≤ (4611686018427387904 : Int))) <|
                                   chk (decide (Int.ofNat (List.length x1888) = Int.ofNat (List.length x1888)) && true) <|
                                   out (ival_Rate x1888 x2164) fun r2165 =>
                                   un_i r2165 fun x2166 r2167 =>
                                   un_nil r2167 <|
                                   chk (decide (Int.ofNat (List.length x1888) = Int.ofNat (List.length x1888)) && true && true) <|
                                   out (feed_Lost x1880 x1882 x1884 x1886 x1888 x1890 x1892 x2139 x1896 x1898 x1900 x1902 x1904 x1906 0 x2139) fun r2168 =>
                                   un_i r2168 fun x2169 r2170 =>
                                   un_nil r2170 <|
                                   br (x2169 == 0)
                                     (br (x2136 == 0)
                                        (one (mulI .i64 6400 x1912) fun x2171 =>
                                         one (wrapI .u64 x2171) fun x2172 =>
                                         br (0 == x2172)
                                           (some [.b (x2145 == 0)])
                                           (some [.b (false)]))
                                        (some [.b (false)]))
                                     (some [.b (false)])))
                               (br (!x1902)
                                  (one (minI 0 8) fun x2173 =>
                                   chk (condSl 0 Option.none (Option.some x2173)) <|
                                   out (ival_Weight 0) fun r2174 =>
                                   un_i r2174 fun x2175 r2176 =>
                                   un_nil r2176 <|
                                   out (fix_Mul 0 x2175) fun r2177 =>
                                   un_i r2177 fun x2178 r2179 =>
                                   un_nil r2179 <|
                                   one (maxI x2178 0) fun x2180 =>
                                   chk (decide (Int.ofNat (List.length x1888) = Int.ofNat (List.length x1888)) && true && true) <|
                                   out (feed_Lost x1880 x1882 x1884 x1886 x1888 x1890 x1892 x2139 x1896 x1898 x1900 x1902 x1904 x1906 x1908 x1910) fun r2181 =>
                                   un_i r2181 fun x2182 r2183 =>
                                   un_nil r2183 <|
                                   br (x2182 == 0)
                                     (br (x2136 == 0)
                                        (one (mulI .i64 6400 x1912) fun x2184 =>
                                         one (wrapI .u64 x2184) fun x2185 =>
                                         br (0 == x2185)
                                           (some [.b (0 == 0)])
                                           (some [.b (false)]))
                                        (some [.b (false)]))
                                     (some [.b (false)]))
                                  (out (seq_Diff x1898 x1906) fun r2186 =>
                                   un_i r2186 fun x2187 r2188 =>
                                   un_nil r2188 <|
                                   one (maxI x2187 0) fun x2189 =>
                                   one (wrapI .u64 x2189) fun x2190 =>
                                   chk (decide (Int.ofNat (List.length x1888) = Int.ofNat (List.length x1888)) && decide (Int.ofNat (List.length x1888) * (↑(nat_lit 8) : Int) ≤ (140737488355328 : Int) ∧ Int.ofNat (List.length x1888) ≤ (4611686018427387904 : Int))) <|
                                   chk (decide (Int.ofNat (List.length x1888) = Int.ofNat (List.length x1888)) && decide (Int.ofNat (List.length x1888) * (↑(nat_lit 8) : Int) ≤ (140737488355328 : Int) ∧ Int.ofNat (List.length x1888) ≤ (4611686018427387904 : Int))) <|
                                   chk (decide (Int.ofNat (List.length x1888) = Int.ofNat (List.length x1888)) && true) <|
                                   out (ival_Rate x1888 x2190) fun r2191 =>
                                   un_i r2191 fun x2192 r2193 =>
                                   un_nil r2193 <|
                                   chk (decide (Int.ofNat (List.length x1888) = Int.ofNat (List.length x1888)) && true && true) <|
                                   out (feed_Lost x1880 x1882 x1884 x1886 x1888 x1890 x1892 x2139 x1896 x1898 x1900 x1902 x1904 x1906 x1908 x1910) fun r2194 =>
                                   un_i r2194 fun x2195 r2196 =>
                                   un_nil r2196 <|
                                   br (x2195 == 0)
                                     (br (x2136 == 0)
                                        (one (mulI .i64 6400 x1912) fun x2197 =>
                                         one (wrapI .u64 x2197) fun x2198 =>
                                         br (0 == x2198)
                                           (some [.b (0 == 0)])
                                           (some [.b (false)]))
                                        (some [.b (false)]))
                                     (some [.b (false)]))))))
                      (out (seq_Diff x1898 x1906) fun r2199 =>
                       un_i r2199 fun x2200 r2201 =>
                       un_nil r2201 <|
                       one (maxI x2200 0) fun x2202 =>
                       one (wrapI .u64 x2202) fun x2203 =>
                       chk (decide (Int.ofNat (List.length x1888) = Int.ofNat (List.length x1888)) && decide (Int.ofNat (List.length x1888) * (↑(nat_lit 8) : Int) ≤ (140737488355328 : Int) ∧ Int.ofNat (List.length x1888) ≤ (4611686018427387904 : Int))) <|
                       chk (decide (Int.ofNat (List.length x1888) = Int.ofNat (List.length x1888)) && decide (Int.ofNat (List.length x1888) * (↑(nat_lit 8) : Int) ≤ (140737488355328 : Int) ∧ Int.ofNat (List.length x1888) ≤ (4611686018427387904 : Int))) <|
                       one (minI 1000000 4611686018427387904) fun x2204 =>
                       one (maxI x1894 x2204) fun x2205 =>
                       br (x1892)
                         (one (mulI .u64 64 x1908) fun x2206 =>
                          one (subI .i64 x2205 x1910) fun x2207 =>
                          one (maxI x2207 1) fun x2208 =>
                          one (wrapI .u64 x2208) fun x2209 =>
                          out (fix_MulDiv x2206 1000000 x2209) fun r2210 =>
                          un_i r2210 fun x2211 r2212 =>
                          un_nil r2212 <|
                          br (!x1902)
                            (one (minI 0 8) fun x2213 =>
                             chk (condSl 0 Option.none (Option.some x2213)) <|
                             out (ival_Weight 0) fun r2214 =>
                             un_i r2214 fun x2215 r2216 =>
                             un_nil r2216 <|
                             out (fix_Mul 0 x2215) fun r2217 =>
                             un_i r2217 fun x2218 r2219 =>
                             un_nil r2219 <|
                             one (maxI x2218 0) fun x2220 =>
                             one (minI 1000000 4611686018427387904) fun x2221 =>
                             one (maxI x2205 x2221) fun x2222 =>
                             br (x1892)
                               (one (mulI .u64 64 0) fun x2223 =>
                                one (subI .i64 x2222 x2205) fun x2224 =>
                                one (maxI x2224 1) fun x2225 =>
                                one (wrapI .u64 x2225) fun x2226 =>
                                out (fix_MulDiv x2223 1000000 x2226) fun r2227 =>
                                un_i r2227 fun x2228 r2229 =>
                                un_nil r2229 <|
                                br (!x1902)
                                  (one (minI 0 8) fun x2230 =>
                                   chk (condSl 0 Option.none (Option.some x2230)) <|
                                   out (ival_Weight 0) fun r2231 =>
                                   un_i r2231 fun x2232 r2233 =>
                                   un_nil r2233 <|
                                   out (fix_Mul 0 x2232) fun r2234 =>
                                   un_i r2234 fun x2235 r2236 =>
                                   un_nil r2236 <|
                                   one (maxI x2235 0) fun x2237 =>
                                   chk (decide (Int.ofNat (List.length x1888) = Int.ofNat (List.length x1888)) && true && true) <|
                                   out (feed_Lost x1880 x1882 x1884 x1886 x1888 x1890 x1892 x2222 x1896 x1898 x1900 x1902 x1904 x1906 0 x2222) fun r2238 =>
                                   un_i r2238 fun x2239 r2240 =>
                                   un_nil r2240 <|
                                   br (x2239 == 0)
                                     (br (x2203 == 0)
                                        (one (Int.ofNat (List.length x1888)) fun x2241 =>
                                         br (x2241 == 0)
                                           (one (mulI .i64 6400 x1912) fun x2242 =>
                                            one (wrapI .u64 x2242) fun x2243 =>
                                            br (x2211 == x2243)
                                              (some [.b (x2228 == 0)])
                                              (some [.b (false)]))
                                           (some [.b (false)]))
                                        (some [.b (false)]))
                                     (some [.b (false)]))
                                  (out (seq_Diff x1898 x1906) fun r2244 =>
                                   un_i r2244 fun x2245 r2246 =>
                                   un_nil r2246 <|
                                   one (maxI x2245 0) fun x2247 =>
                                   one (wrapI .u64 x2247) fun x2248 =>
                                   chk (decide (Int.ofNat (List.length x1888) = Int.ofNat (List.length x1888)) && decide (Int.ofNat (List.length x1888) * (↑(nat_lit 8) : Int) ≤ (140737488355328 : Int) ∧ Int.ofNat (List.length x1888) ≤ (4611686018427387904 : Int))) <|
                                   chk (decide (Int.ofNat (List.length x1888) = Int.ofNat (List.length x1888)) && decide (Int.ofNat (List.length x1888) * (↑(nat_lit 8) : Int) ≤ (140737488355328 : Int) ∧ Int.ofNat (List.length x1888) ≤ (4611686018427387904 : Int))) <|
                                   chk (decide (Int.ofNat (List.length x1888) = Int.ofNat (List.length x1888)) && true) <|
                                   out (ival_Rate x1888 x2248) fun r2249 =>
                                   un_i r2249 fun x2250 r2251 =>
                                   un_nil r2251 <|
                                   chk (decide (Int.ofNat (List.length x1888) = Int.ofNat (List.length x1888)) && true && true) <|
                                   out (feed_Lost x1880 x1882 x1884 x1886 x1888 x1890 x1892 x2222 x1896 x1898 x1900 x1902 x1904 x1906 0 x2222) fun r2252 =>
                                   un_i r2252 fun x2253 r2254 =>
                                   un_nil r2254 <|
                                   br (x2253 == 0)
                                     (br (x2203 == 0)
                                        (one (Int.ofNat (List.length x1888)) fun x2255 =>
                                         br (x2255 == 0)
                                           (one (mulI .i64 6400 x1912) fun x2256 =>
                                            one (wrapI .u64 x2256) fun x2257 =>
                                            br (x2211 == x2257)
                                              (some [.b (x2228 == 0)])
                                              (some [.b (false)]))
                                           (some [.b (false)]))
                                        (some [.b (false)]))
                                     (some [.b (false)])))
                               (br (!x1902)
                                  (one (minI 0 8) fun x2258 =>
                                   chk (condSl 0 Option.none (Option.some x2258)) <|
                                   out (ival_Weight 0) fun r2259 =>
                                   un_i r2259 fun x2260 r2261 =>
                                   un_nil r2261 <|
                                   out (fix_Mul 0 x2260) fun r2262 =>
                                   un_i r2262 fun x2263 r2264 =>
                                   un_nil r2264 <|
                                   one (maxI x2263 0) fun x2265 =>
                                   chk (decide (Int.ofNat (List.length x1888) = Int.ofNat (List.length x1888)) && true && true) <|
                                   out (feed_Lost x1880 x1882 x1884 x1886 x1888 x1890 x1892 x2222 x1896 x1898 x1900 x1902 x1904 x1906 0 x2205) fun r2266 =>
                                   un_i r2266 fun x2267 r2268 =>
                                   un_nil r2268 <|
                                   br (x2267 == 0)
                                     (br (x2203 == 0)
                                        (one (Int.ofNat (List.length x1888)) fun x2269 =>
                                         br (x2269 == 0)
                                           (one (mulI .i64 6400 x1912) fun x2270 =>
                                            one (wrapI .u64 x2270) fun x2271 =>
                                            br (x2211 == x2271)
                                              (some [.b (0 == 0)])
                                              (some [.b (false)]))
                                           (some [.b (false)]))
                                        (some [.b (false)]))
                                     (some [.b (false)]))
                                  (out (seq_Diff x1898 x1906) fun r2272 =>
                                   un_i r2272 fun x2273 r2274 =>
                                   un_nil r2274 <|
                                   one (maxI x2273 0) fun x2275 =>
                                   one (wrapI .u64 x2275) fun x2276 =>
                                   chk (decide (Int.ofNat (List.length x1888) = Int.ofNat (List.length x1888)) && decide (Int.ofNat (List.length x1888) * (↑(nat_lit 8) : Int) ≤ (140737488355328 : Int) ∧ Int.ofNat (List.length x1888) ≤ (4611686018427387904 : Int))) <|
                                   chk (decide (Int.ofNat (List.length x1888) = Int.ofNat (List.length x1888)) && decide (Int.ofNat (List.length x1888) * (↑(nat_lit 8) : Int) ≤ (140737488355328 : Int) ∧ Int.ofNat (List.length x1888) ≤ (4611686018427387904 : Int))) <|
                                   chk (decide (Int.ofNat (List.length x1888) = Int.ofNat (List.length x1888)) && true) <|
                                   out (ival_Rate x1888 x2276) fun r2277 =>
                                   un_i r2277 fun x2278 r2279 =>
                                   un_nil r2279 <|
                                   chk (decide (Int.ofNat (List.length x1888) = Int.ofNat (List.length x1888)) && true && true) <|
                                   out (feed_Lost x1880 x1882 x1884 x1886 x1888 x1890 x1892 x2222 x1896 x1898 x1900 x1902 x1904 x1906 0 x2205) fun r2280 =>
                                   un_i r2280 fun x2281 r2282 =>
                                   un_nil r2282 <|
                                   br (x2281 == 0)
                                     (br (x2203 == 0)
                                        (one (Int.ofNat (List.length x1888)) fun x2283 =>
                                         br (x2283 == 0)
                                           (one (mulI .i64 6400 x1912) fun x2284 =>
                                            one (wrapI .u64 x2284) fun x2285 =>
                                            br (x2211 == x2285)
                                              (some [.b (0 == 0)])
                                              (some [.b (false)]))
                                           (some [.b (false)]))
                                        (some [.b (false)]))
                                     (some [.b (false)]))))
                            (out (seq_Diff x1898 x1906) fun r2286 =>
                             un_i r2286 fun x2287 r2288 =>
                             un_nil r2288 <|
                             one (maxI x2287 0) fun x2289 =>
                             one (wrapI .u64 x2289) fun x2290 =>
                             chk (decide (Int.ofNat (List.length x1888) = Int.ofNat (List.length x1888)) && decide (Int.ofNat (List.length x1888) * (↑(nat_lit 8) : Int) ≤ (140737488355328 : Int) ∧ Int.ofNat (List.length x1888) ≤ (4611686018427387904 : Int))) <|
                             chk (decide (Int.ofNat (List.length x1888) = Int.ofNat (List.length x1888)) && decide (Int.ofNat (List.length x1888) * (↑(nat_lit 8) : Int) ≤ (140737488355328 : Int) ∧ Int.ofNat (List.length x1888) ≤ (4611686018427387904 : Int))) <|
                             chk (decide (Int.ofNat (List.length x1888) = Int.ofNat (List.length x1888)) && true) <|
                             out (ival_Rate x1888 x2290) fun r2291 =>
                             un_i r2291 fun x2292 r2293 =>
                             un_nil r2293 <|
                             one (minI 1000000 4611686018427387904) fun x2294 =>
                             one (maxI x2205 x2294) fun x2295 =>
                             br (x1892)
                               (one (mulI .u64 64 0) fun x2296 =>
                                one (subI .i64 x2295 x2205) fun x2297 =>
                                one (maxI x2297 1) fun x2298 =>
                                one (wrapI .u64 x2298) fun x2299 =>
                                out (fix_MulDiv x2296 1000000 x2299) fun r2300 =>
                                un_i r2300 fun x2301 r2302 =>
                                un_nil r2302 <|
                                br (!x1902)
                                  (one (minI 0 8) fun x2303 =>
                                   chk (condSl 0 Option.none (Option.some x2303)) <|
                                   out (ival_Weight 0) fun r2304 =>
                                   un_i r2304 fun x2305 r2306 =>
                                   un_nil r2306 <|
                                   out (fix_Mul 0 x2305) fun r2307 =>
                                   un_i r2307 fun x2308 r2309 =>
                                   un_nil r2309 <|
                                   one (maxI x2308 0) fun x2310 =>
                                   chk (decide (Int.ofNat (List.length x1888) = Int.ofNat (List.length x1888)) && true && true) <|
                                   out (feed_Lost x1880 x1882 x1884 x1886 x1888 x1890 x1892 x2295 x1896 x1898 x1900 x1902 x1904 x1906 0 x2295) fun r2311 =>
                                   un_i r2311 fun x2312 r2313 =>
                                   un_nil r2313 <|
                                   br (x2312 == 0)
                                     (br (x2203 == 0)
                                        (one (Int.ofNat (List.length x1888)) fun x2314 =>
                                         br (x2314 == 0)
                                           (br (x2292 == 0)
                                              (one (mulI .i64 6400 x1912) fun x2315 =>
                                               one (wrapI .u64 x2315) fun x2316 =>
                                               br (x2211 == x2316)
                                                 (some [.b (x2301 == 0)])
                                                 (some [.b (false)]))
                                              (some [.b (false)]))
                                           (some [.b (false)]))
                                        (some [.b (false)]))
                                     (some [.b (false)]))
                                  (out (seq_Diff x1898 x1906) fun r2317 =>
                                   un_i r2317 fun x2318 r2319 =>
                                   un_nil r2319 <|
                                   one (maxI x2318 0) fun x2320 =>
                                   one (wrapI .u64 x2320) fun x2321 =>
                                   chk (decide (Int.ofNat (List.length x1888) = Int.ofNat (List.length x1888)) && decide (Int.ofNat (List.length x1888) * (↑(nat_lit 8) : Int) ≤ (140737488355328 : Int) ∧ Int.ofNat (List.length x1888) ≤ (4611686018427387904 : Int))) <|
                                   chk (decide (Int.ofNat (List.length x1888) = Int.ofNat (List.length x1888)) && decide (Int.ofNat (List.length x1888) * (↑(nat_lit 8) : Int) ≤ (140737488355328 : Int) ∧ Int.ofNat (List.length x1888) ≤ (4611686018427387904 : Int))) <|
                                   chk (decide (Int.ofNat (List.length x1888) = Int.ofNat (List.length x1888)) && true) <|
                                   out (ival_Rate x1888 x2321) fun r2322 =>
                                   un_i r2322 fun x2323 r2324 =>
                                   un_nil r2324 <|
                                   chk (decide (Int.ofNat (List.length x1888) = Int.ofNat (List.length x1888)) && true && true) <|
                                   out (feed_Lost x1880 x1882 x1884 x1886 x1888 x1890 x1892 x2295 x1896 x1898 x1900 x1902 x1904 x1906 0 x2295) fun r2325 =>
                                   un_i r2325 fun x2326 r2327 =>
                                   un_nil r2327 <|
                                   br (x2326 == 0)
                                     (br (x2203 == 0)
                                        (one (Int.ofNat (List.length x1888)) fun x2328 =>
                                         br (x2328 == 0)
                                           (br (x2292 == 0)
                                              (one (mulI .i64 6400 x1912) fun x2329 =>
                                               one (wrapI .u64 x2329) fun x2330 =>
                                               br (x2211 == x2330)
                                                 (some [.b (x2301 == 0)])
                                                 (some [.b (false)]))
                                              (some [.b (false)]))
                                           (some [.b (false)]))
                                        (some [.b (false)]))
                                     (some [.b (false)])))
                               (br (!x1902)
                                  (one (minI 0 8) fun x2331 =>
                                   chk (condSl 0 Option.none (Option.some x2331)) <|
                                   out (ival_Weight 0) fun r2332 =>
                                   un_i r2332 fun x2333 r2334 =>
                                   un_nil r2334 <|
                                   out (fix_Mul 0 x2333) fun r2335 =>
                                   un_i r2335 fun x2336 r2337 =>
                                   un_nil r2337 <|
                                   one (maxI x2336 0) fun x2338 =>
                                   chk (decide (Int.ofNat (List.length x1888) = Int.ofNat (List.length x1888)) && true && true) <|
                                   out (feed_Lost x1880 x1882 x1884 x1886 x1888 x1890 x1892 x2295 x1896 x1898 x1900 x1902 x1904 x1906 0 x2205) fun r2339 =>
                                   un_i r2339 fun x2340 r2341 =>
                                   un_nil r2341 <|
                                   br (x2340 == 0)
                                     (br (x2203 == 0)
                                        (one (Int.ofNat (List.length x1888)) fun x2342 =>
                                         br (x2342 == 0)
                                           (br (x2292 == 0)
                                              (one (mulI .i64 6400 x1912) fun x2343 =>
                                               one (wrapI .u64 x2343) fun x2344 =>
                                               br (x2211 == x2344)
                                                 (some [.b (0 == 0)])
                                                 (some [.b (false)]))
                                              (some [.b (false)]))
                                           (some [.b (false)]))
                                        (some [.b (false)]))
                                     (some [.b (false)]))
                                  (out (seq_Diff x1898 x1906) fun r2345 =>
                                   un_i r2345 fun x2346 r2347 =>
                                   un_nil r2347 <|
                                   one (maxI x2346 0) fun x2348 =>
                                   one (wrapI .u64 x2348) fun x2349 =>
                                   chk (decide (Int.ofNat (List.length x1888) = Int.ofNat (List.length x1888)) && decide (Int.ofNat (List.length x1888) * (↑(nat_lit 8) : Int) ≤ (140737488355328 : Int) ∧ Int.ofNat (List.length x1888) ≤ (4611686018427387904 : Int))) <|
                                   chk (decide (Int.ofNat (List.length x1888) = Int.ofNat (List.length x1888)) && decide (Int.ofNat (List.length x1888) * (↑(nat_lit 8) : Int) ≤ (140737488355328 : Int) ∧ Int.ofNat (List.length x1888) ≤ (4611686018427387904 : Int))) <|
                                   chk (decide (Int.ofNat (List.length x1888) = Int.ofNat (List.length x1888)) && true) <|
                                   out (ival_Rate x1888 x2349) fun r2350 =>
                                   un_i r2350 fun x2351 r2352 =>
                                   un_nil r2352 <|
                                   chk (decide (Int.ofNat (List.length x1888) = Int.ofNat (List.length x1888)) && true && true) <|
                                   out (feed_Lost x1880 x1882 x1884 x1886 x1888 x1890 x1892 x2295 x1896 x1898 x1900 x1902 x1904 x1906 0 x2205) fun r2353 =>
                                   un_i r2353 fun x2354 r2355 =>
                                   un_nil r2355 <|
                                   br (x2354 == 0)
                                     (br (x2203 == 0)
                                        (one (Int.ofNat (List.length x1888)) fun x2356 =>
                                         br (x2356 == 0)
                                           (br (x2292 == 0)
                                              (one (mulI .i64 6400 x1912) fun x2357 =>
                                               one (wrapI .u64 x2357) fun x2358 =>
                                               br (x2211 == x2358)
                                                 (some [.b (0 == 0)])
                                                 (some [.b (false)]))
                                              (some [.b (false)]))
                                           (some [.b (false)]))
                                        (some [.b (false)]))
                                     (some [.b (false)])))))
                         (br (!x1902)
                            (one (minI 0 8) fun x2359 =>
                             chk (condSl 0 Option.none (Option.some x2359)) <|
                             out (ival_Weight 0) fun r2360 =>
                             un_i r2360 fun x2361 r2362 =>
                             un_nil r2362 <|
                             out (fix_Mul 0 x2361) fun r2363 =>
                             un_i r2363 fun x2364 r2365 =>
                             un_nil r2365 <|
                             one (maxI x2364 0) fun x2366 =>
                             one (minI 1000000 4611686018427387904) fun x2367 =>
                             one (maxI x2205 x2367) fun x2368 =>
                             br (x1892)
                               (one (mulI .u64 64 x1908) fun x2369 =>
                                one (subI .i64 x2368 x1910) fun x2370 =>
                                one (maxI x2370 1) fun x2371 =>
                                one (wrapI .u64 x2371) fun x2372 =>
                                out (fix_MulDiv x2369 1000000 x2372) fun r2373 =>
                                un_i r2373 fun x2374 r2375 =>
                                un_nil r2375 <|
                                br (!x1902)
                                  (one (minI 0 8) fun x2376 =>
                                   chk (condSl 0 Option.none (Option.some x2376)) <|
                                   out (ival_Weight 0) fun r2377 =>
                                   un_i r2377 fun x2378 r2379 =>
                                   un_nil r2379 <|
                                   out (fix_Mul 0 x2378) fun r2380 =>
                                   un_i r2380 fun x2381 r2382 =>
                                   un_nil r2382 <|
                                   one (maxI x2381 0) fun x2383 =>
                                   chk (decide (Int.ofNat (List.length x1888) = Int.ofNat (List.length x1888)) && true && true) <|
                                   out (feed_Lost x1880 x1882 x1884 x1886 x1888 x1890 x1892 x2368 x1896 x1898 x1900 x1902 x1904 x1906 0 x2368) fun r2384 =>
                                   un_i r2384 fun x2385 r2386 =>
                                   un_nil r2386 <|
                                   br (x2385 == 0)
                                     (br (x2203 == 0)
                                        (one (Int.ofNat (List.length x1888)) fun x2387 =>
                                         br (x2387 == 0)
                                           (one (mulI .i64 6400 x1912) fun x2388 =>
                                            one (wrapI .u64 x2388) fun x2389 =>
                                            br (0 == x2389)
                                              (some [.b (x2374 == 0)])
                                              (some [.b (false)]))
                                           (some [.b (false)]))
                                        (some [.b (false)]))
                                     (some [.b (false)]))
                                  (out (seq_Diff x1898 x1906) fun r2390 =>
                                   un_i r2390 fun x2391 r2392 =>
                                   un_nil r2392 <|
                                   one (maxI x2391 0) fun x2393 =>
                                   one (wrapI .u64 x2393) fun x2394 =>
                                   chk (decide (Int.ofNat (List.length x1888) = Int.ofNat (List.length x1888)) && decide (Int.ofNat (List.length x1888) * (↑(nat_lit 8) : Int) ≤ (140737488355328 : Int) ∧ Int.ofNat (List.length x1888) ≤ (4611686018427387904 : Int))) <|
                                   chk (decide (Int.ofNat (List.length x1888) = Int.ofNat (List.length x1888)) && decide (Int.ofNat (List.length x1888) * (↑(nat_lit 8) : Int) ≤ (140737488355328 : Int) ∧ Int.ofNat (List.length x1888) ≤ (4611686018427387904 : Int))) <|
                                   chk (decide (Int.ofNat (List.length x1888) = Int.ofNat (List.length x1888)) && true) <|
                                   out (ival_Rate x1888 x2394) fun r2395 =>
                                   un_i r2395 fun x2396 r2397 =>
                                   un_nil r2397 <|
                                   chk (decide (Int.ofNat (List.length x1888) = Int.ofNat (List.length x1888)) && true && true) <|
                                   out (feed_Lost x1880 x1882 x1884 x1886 x1888 x1890 x1892 x2368 x1896 x1898 x1900 x1902 x1904 x1906 0 x2368) fun r2398 =>
                                   un_i r2398 fun x2399 r2400 =>
                                   un_nil r2400 <|
                                   br (x2399 == 0)
                                     (br (x2203 == 0)
                                        (one (Int.ofNat (List.length x1888)) fun x2401 =>
                                         br (x2401 == 0)
                                           (one (mulI .i64 6400 x1912) fun x2402 =>
                                            one (wrapI .u64 x2402) fun x2403 =>
                                            br (0 == x2403)
                                              (some [.b (x2374 == 0)])
                                              (some [.b (false)]))
                                           (some [.b (false)]))
                                        (some [.b (false)]))
                                     (some [.b (false)])))
                               (br (!x1902)
                                  (one (minI 0 8) fun x2404 =>
                                   chk (condSl 0 Option.none (Option.some x2404)) <|
                                   out (ival_Weight 0) fun r2405 =>
                                   un_i r2405 fun x2406 r2407 =>
                                   un_nil r2407 <|
                                   out (fix_Mul 0 x2406) fun r2408 =>
                                   un_i r2408 fun x2409 r2410 =>
                                   un_nil r2410 <|
                                   one (maxI x2409 0) fun x2411 =>
                                   chk (decide (Int.ofNat (List.length x1888) = Int.ofNat (List.length x1888)) && true && true) <|
                                   out (feed_Lost x1880 x1882 x1884 x1886 x1888 x1890 x1892 x2368 x1896 x1898 x1900 x1902 x1904 x1906 x1908 x1910) fun r2412 =>
                                   un_i r2412 fun x2413 r2414 =>
                                   un_nil r2414 <|
                                   br (x2413 == 0)
                                     (br (x2203 == 0)
                                        (one (Int.ofNat (List.length x1888)) fun x2415 =>
                                         br (x2415 == 0)
                                           (one (mulI .i64 6400 x1912) fun x2416 =>
                                            one (wrapI .u64 x2416) fun x2417 =>
                                            br (0 == x2417)
                                              (some [.b (0 == 0)])
                                              (some [.b (false)]))
                                           (some [.b (false)]))
                                        (some [.b (false)]))
                                     (some [.b (false)]))
                                  (out (seq_Diff x1898 x1906) fun r2418 =>
                                   un_i r2418 fun x2419 r2420 =>
                                   un_nil r2420 <|
                                   one (maxI x2419 0) fun x2421 =>
                                   one (wrapI .u64 x2421) fun x2422 =>
                                   chk (decide (Int.ofNat (List.length x1888) = Int.ofNat (List.length x1888)) && decide (Int.ofNat (List.length x1888) * (↑(nat_lit 8) : Int) ≤ (140737488355328 : Int) ∧ Int.ofNat (List.length x1888) ≤ (4611686018427387904 : Int))) <|
                                   chk (decide (Int.ofNat (List.length x1888) = Int.ofNat (List.length x1888)) && decide (Int.ofNat (List.length x1888) * (↑(nat_lit 8) : Int) ≤ (140737488355328 : Int) ∧ Int.ofNat (List.length x1888) ≤ (4611686018427387904 : Int))) <|
                                   chk (decide (Int.ofNat (List.length x1888) = Int.ofNat (List.length x1888)) && true) <|
                                   out (ival_Rate x1888 x2422) fun r2423 =>
                                   un_i r2423 fun x2424 r2425 =>
                                   un_nil r2425 <|
                                   chk (decide (Int.ofNat (List.length x1888) = Int.ofNat (List.length x1888)) && true && true) <|
                                   out (feed_Lost x1880 x1882 x1884 x1886 x1888 x1890 x1892 x2368 x1896 x1898 x1900 x1902 x1904 x1906 x1908 x1910) fun r2426 =>
                                   un_i r2426 fun x2427 r2428 =>
                                   un_nil r2428 <|
                                   br (x2427 == 0)
                                     (br (x2203 == 0)
                                        (one (Int.ofNat (List.length x1888)) fun x2429 =>
                                         br (x2429 == 0)
                                           (one (mulI .i64 6400 x1912) fun x2430 =>
                                            one (wrapI .u64 x2430) fun x2431 =>
                                            br (0 == x2431)
                                              (some [.b (0 == 0)])
                                              (some [.b (false)]))
                                           (some [.b (false)]))
                                        (some [.b (false)]))
                                     (some [.b (false)]))))
                            (out (seq_Diff x1898 x1906) fun r2432 =>
                             un_i r2432 fun x2433 r2434 =>
                             un_nil r2434 <|
                             one (maxI x2433 0) fun x2435 =>
                             one (wrapI .u64 x2435) fun x2436 =>
                             chk (decide (Int.ofNat (List.length x1888) = Int.ofNat (List.length x1888)) && decide (Int.ofNat (List.length x1888) * (↑(nat_lit 8) : Int) ≤ (140737488355328 : Int) ∧ Int.ofNat (List.length x1888) ≤ (4611686018427387904 : Int))) <|
                             chk (decide (Int.ofNat (List.length x1888) = Int.ofNat (List.length x1888)) && decide (Int.ofNat (List.length x1888) * (↑(nat_lit 8) : Int) ≤ (140737488355328 : Int) ∧ Int.ofNat (List.length x1888) ≤ (4611686018427387904 : Int))) <|
                             chk (decide (Int.ofNat (List.length x1888) = Int.ofNat (List.length x1888)) && true) <|
                             out (ival_Rate x1888 x2436) fun r2437 =>
                             un_i r2437 fun x2438 r2439 =>
                             un_nil r2439 <|
                             one (minI 1000000 4611686018427387904) fun x2440 =>
                             one (maxI x2205 x2440) fun x2441 =>
                             br (x1892)
                               (one (mulI .u64 64 x1908) fun x2442 =>
                                one (subI .i64 x2441 x1910) fun x2443 =>
                                one (maxI x2443 1) fun x2444 =>
                                one (wrapI .u64 x2444) fun x2445 =>
                                out (fix_MulDiv x2442 1000000 x2445) fun r2446 =>
                                un_i r2446 fun x2447 r2448 =>
                                un_nil r2448 <|
                                br (!x1902)
                                  (one (minI 0 8) fun x2449 =>
                                   chk (condSl 0 Option.none (Option.some x2449)) <|
                                   out (ival_Weight 0) fun r2450 =>
                                   un_i r2450 fun x2451 r2452 =>
                                   un_nil r2452 <|
                                   out (fix_Mul 0 x2451) fun r2453 =>
                                   un_i r2453 fun x2454 r2455 =>
                                   un_nil r2455 <|
                                   one (maxI x2454 0) fun x2456 =>
                                   chk (decide (Int.ofNat (List.length x1888) = Int.ofNat (List.length x1888)) && true && true) <|
                                   out (feed_Lost x1880 x1882 x1884 x1886 x1888 x1890 x1892 x2441 x1896 x1898 x1900 x1902 x1904 x1906 0 x2441) fun r2457 =>
                                   un_i r2457 fun x2458 r2459 =>
                                   un_nil r2459 <|
                                   br (x2458 == 0)
                                     (br (x2203 == 0)
                                        (one (Int.ofNat (List.length x1888)) fun x2460 =>
                                         br (x2460 == 0)
                                           (br (x2438 == 0)
                                              (one (mulI .i64 6400 x1912) fun x2461 =>
                                               one (wrapI .u64 x2461) fun x2462 =>
                                               br (0 == x2462)
                                                 (some [.b (x2447 == 0)])
                                                 (some [.b (false)]))
                                              (some [.b (false)]))
                                           (some [.b (false)]))
                                        (some [.b (false)]))
                                     (some [.b (false)]))
                                  (out (seq_Diff x1898 x1906) fun r2463 =>
                                   un_i r2463 fun x2464 r2465 =>
                                   un_nil r2465 <|
                                   one (maxI x2464 0) fun x2466 =>
                                   one (wrapI .u64 x2466) fun x2467 =>
                                   chk (decide (Int.ofNat (List.length x1888) = Int.ofNat (List.length x1888)) && decide (Int.ofNat (List.length x1888) * (↑(nat_lit 8) : Int) ≤ (140737488355328 : Int) ∧ Int.ofNat (List.length x1888) ≤ (4611686018427387904 : Int))) <|
                                   chk (decide (Int.ofNat (List.length x1888) = Int.ofNat (List.length x1888)) && decide (Int.ofNat (List.length x1888) * (↑(nat_lit 8) : Int) ≤ (140737488355328 : Int) ∧ Int.ofNat (List.length x1888) ≤ (4611686018427387904 : Int))) <|
                                   chk (decide (Int.ofNat (List.length x1888) = Int.ofNat (List.length x1888)) && true) <|
                                   out (ival_Rate x1888 x2467) fun r2468 =>
                                   un_i r2468 fun x2469 r2470 =>
                                   un_nil r2470 <|
                                   chk (decide (Int.ofNat (List.length x1888) = Int.ofNat (List.length x1888)) && true && true) <|
                                   out (feed_Lost x1880 x1882 x1884 x1886 x1888 x1890 x1892 x2441 x1896 x1898 x1900 x1902 x1904 x1906 0 x2441) fun r2471 =>
                                   un_i r2471 fun x2472 r2473 =>
                                   un_nil r2473 <|
                                   br (x2472 == 0)
                                     (br (x2203 == 0)
                                        (one (Int.ofNat (List.length x1888)) fun x2474 =>
                                         br (x2474 == 0)
                                           (br (x2438 == 0)
                                              (one (mulI .i64 6400 x1912) fun x2475 =>
                                               one (wrapI .u64 x2475) fun x2476 =>
                                               br (0 == x2476)
                                                 (some [.b (x2447 == 0)])
                                                 (some [.b (false)]))
                                              (some [.b (false)]))
                                           (some [.b (false)]))
                                        (some [.b (false)]))
                                     (some [.b (false)])))
                               (br (!x1902)
                                  (one (minI 0 8) fun x2477 =>
                                   chk (condSl 0 Option.none (Option.some x2477)) <|
                                   out (ival_Weight 0) fun r2478 =>
                                   un_i r2478 fun x2479 r2480 =>
                                   un_nil r2480 <|
                                   out (fix_Mul 0 x2479) fun r2481 =>
                                   un_i r2481 fun x2482 r2483 =>
                                   un_nil r2483 <|
                                   one (maxI x2482 0) fun x2484 =>
                                   chk (decide (Int.ofNat (List.length x1888) = Int.ofNat (List.length x1888)) && true && true) <|
                                   out (feed_Lost x1880 x1882 x1884 x1886 x1888 x1890 x1892 x2441 x1896 x1898 x1900 x1902 x1904 x1906 x1908 x1910) fun r2485 =>
                                   un_i r2485 fun x2486 r2487 =>
                                   un_nil r2487 <|
                                   br (x2486 == 0)
                                     (br (x2203 == 0)
                                        (one (Int.ofNat (List.length x1888)) fun x2488 =>
                                         br (x2488 == 0)
                                           (br (x2438 == 0)
                                              (one (mulI .i64 6400 x1912) fun x2489 =>
                                               one (wrapI .u64 x2489) fun x2490 =>
                                               br (0 == x2490)
                                                 (some [.b (0 == 0)])
                                                 (some [.b (false)]))
                                              (some [.b (false)]))
                                           (some [.b (false)]))
                                        (some [.b (false)]))
                                     (some [.b (false)]))
                                  (out (seq_Diff x1898 x1906) fun r2491 =>
                                   un_i r2491 fun x2492 r2493 =>
                                   un_nil r2493 <|
                                   one (maxI x2492 0) fun x2494 =>
                                   one (wrapI .u64 x2494) fun x2495 =>
                                   chk (decide (Int.ofNat (List.length x1888) = Int.ofNat (List.length x1888)) && decide (Int.ofNat (List.length x1888) * (↑(nat_lit 8) : Int) ≤ (140737488355328 : Int) ∧ Int.ofNat (List.length x1888) ≤ (4611686018427387904 : Int))) <|
                                   chk (decide (Int.ofNat (List.length x1888) = Int.ofNat (List.length x1888)) && decide (Int.ofNat (List.length x1888) * (↑(nat_lit 8) : Int) ≤ (140737488355328 : Int) ∧ Int.ofNat (List.length x1888) ≤ (4611686018427387904 : Int))) <|
                                   chk (decide (Int.ofNat (List.length x1888) = Int.ofNat (List.length x1888)) && true) <|
                                   out (ival_Rate x1888 x2495) fun r2496 =>
                                   un_i r2496 fun x2497 r2498 =>
                                   un_nil r2498 <|
                                   chk (decide (Int.ofNat (List.length x1888) = Int.ofNat (List.length x1888)) && true && true) <|
                                   out (feed_Lost x1880 x1882 x1884 x1886 x1888 x1890 x1892 x2441 x1896 x1898 x1900 x1902 x1904 x1906 x1908 x1910) fun r2499 =>
                                   un_i r2499 fun x2500 r2501 =>
                                   un_nil r2501 <|
                                   br (x2500 == 0)
                                     (br (x2203 == 0)
                                        (one (Int.ofNat (List.length x1888)) fun x2502 =>
                                         br (x2502 == 0)
                                           (br (x2438 == 0)
                                              (one (mulI .i64 6400 x1912) fun x2503 =>
                                               one (wrapI .u64 x2503) fun x2504 =>
                                               br (0 == x2504)
                                                 (some [.b (0 == 0)])
                                                 (some [.b (false)]))
                                              (some [.b (false)]))
                                           (some [.b (false)]))
                                        (some [.b (false)]))
                                     (some [.b (false)])))))))
                   (none))
                (fun r2505 =>
                 un_lb r2505 fun x2506 r2507 =>
                 un_b r2507 fun x2508 r2509 =>
                 un_nil r2509 <|
                 some [.b (x2508)])
                top (x1837) (x1839) (x1841) (x1843) (x1845) (x1847) (x1849) (x1851) (x1853) (x1855) (x1857) (x1859) (x1861) (x1863) (x1865) (x1867) (x1869) (x1871) (0) (x1873) (x1875))
             (none))
          (fun r2510 =>
           un_nil r2510 <|
           none)
          top (x1797) (x1799) (x1801) (x1803) (x1805) (x1807) (x1809) (x1811) (x1813) (x1815) (x1817) (x1819) (x1821) (x1823) (x1825) (x1827) (x1829) (x1831) (1) (x1833))
       (none))
    (fun r2511 =>
     un_nil r2511 <|
     none)
    top (swaps) ([]) (x1763) (x1765) (x1767) (x1769) (x1771) (x1773) (x1775) (x1777) (x1779) (x1781) (x1783) (x1785) (x1787) (x1789) (x1791) (x1793) (0) (first) (x1761)
def FeedNone (swaps : List Bool) (first : Int) (n2 : Int) : Option (List Leaf) := FeedNone_d @FeedNone_8_L @FeedNone_12_L @FeedNone_17_L swaps first n2
end Go.Sx.T

